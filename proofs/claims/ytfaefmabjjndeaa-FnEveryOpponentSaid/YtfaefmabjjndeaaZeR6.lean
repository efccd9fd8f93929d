/-
  Right answers: the program's side, what is reached, bad loops, the whole check.
-/
import Derived.Test.YtfaefmabjjndeaaZeR5
import Derived.Test.YtfaefmabjjndeaaZeE15
namespace Go.Proofs.Ytfaefmabjjndeaa
set_option linter.unusedVariables false
set_option linter.unusedSimpArgs false
open Go.RowKit
attribute [local irreducible] aL cQ Aw Le
theorem iE {n v : Nat} {p : Nat → Prop} : gb (mks n p) v = true ↔ v < n ∧ p v:=by
 constructor
 · intro h
   rcases Nat.lt_or_ge v n with h'|h'
   · rw [dU _ h'] at h
     exact ⟨h',gt.1 h⟩
   · rw [gb,List.getD_eq_getElem?_getD,List.getElem?_eq_none (by rw [cK];exact h')] at h;cases h
 · rintro ⟨h1,h2⟩
   rw [dU _ h1,bV h2]
theorem tJ {bs : List Bool} {v : Nat} (h : gb bs v = true) : v < bs.length:=by
 rcases Nat.lt_or_ge v bs.length with h'|h'
 · exact h'
 · rw [gb,List.getD_eq_getElem?_getD,List.getElem?_eq_none h'] at h;cases h
set_option maxHeartbeats 2000000 in
theorem pq (a : Ar) (ha : ArOk a) (F L : List Bool) (hF : F.length = a.own.length) (hL : L.length = a.own.length) : aL Try.prog 201 [arA a,.c (.B F),.c (.nn (.B L))] [.arr 4 .yes (.B (mks a.own.length (Rch (edR (gr a.nxt)) (fun v=>gb F v = true) (fun v=>gb L v = true))))] (fun ns=>.sl (ns.getD 0 0)):=by
 have hle:=ha.le
 have hln:=ha.len
 have hrow : ∀ v,v < a.own.length → ∀ t,t < (gr a.nxt v).length → 0 ≤ gi (gr a.nxt v) t ∧ gi (gr a.nxt v) t < a.own.length:=fun v hv t ht=>by
  have:=(ha.vert v hv).2.2.2.2 t ht
  exact ⟨this.1,this.2.1⟩
 have hA0 : RInv (gr a.nxt) (fun v=>gb F v = true) (fun v=>gb L v = true) a.own.length 0 0 (cW F a.own.length) F:=RInv.start hF fun v hv=>Iff.rfl
 (refine bK aK Try.func201 rfl rfl (by kernel_rfl) fun hp0 ν hX hN=>?_;simp only [cG,Nat.reduceAdd])
 (repeat' (first|(with_reducible first|(refine hK _ _ ?_;clear hK K)|(refine aa _ ?_;clear aa K)|refine bh ?_|refine bX ?_|refine a9 ?_|refine aq ?_|refine ap ?_|refine bY ?_|refine aG ?_|refine ba ?_|refine bZ ?_|refine bc ?_|refine bd rfl ?_|refine bi ?_|refine be ?_|refine b7 ?_|refine bf ?_|refine aF ?_|refine n_k ?_|refine bg ?_|(refine ae ?_;clear ae X af Y)|(refine af ?_;clear ae X af Y))|(with_reducible refine bo ?_;first|refine bm rfl ?_|refine bn rfl ?_)|(with_reducible refine aQ ?_;first|refine au rfl rfl rfl rfl ?_|refine aI rfl rfl rfl ?_|refine bt rfl rfl rfl rfl ?_)|((first|(with_reducible first|refine bp rfl rfl fun K hK=>?_|refine br rfl rfl fun K aa=>?_|refine aH fun X Y ae af=>?_|refine aJ ?_)|(with_reducible refine aQ ?_;refine aW rfl rfl fun X Y ae af=>?_));simp (disch:=first|decide|omega|(simp only [List.length_cons,List.length_nil];omega)) only [go_sem,beq_self_eq_true,↓aj,↓ak hN,am hN,reduceIte,reduceCtorEq,Nat.reduceAdd,Nat.reduceLT,Nat.reduceLeDiff,Nat.reduceEqDiff,Nat.reduceSub])|(with_reducible refine And.intro (fun h=>?_) (fun h=>?_) <;> try (exfalso;omega))|(with_reducible refine bj aK hN rfl ?_ ?_;kernel_rfl)|(refine aO (gL F (by omega)) ?_ rfl (fun _=>rfl) ?_)|(with_reducible first|exact ax|refine ao ?_ ?_|exact cg _|refine bv ?_|exact a8 _|exact bJ _ _|refine bI ?_|exact aY _)|exact bw hN rfl rfl|(refine bG hN rfl ?_;first|exact aM _|exact aN _)|exact aZ rfl rfl rfl|(simp only [bW,List.map_nil])|(with_reducible refine b8 ?_)|(with_reducible refine And.intro ?_ ?_)|(refine ah ?_;omega)|(exact bu hN (by decide))))
 rw [hF]
 (refine cj (fun (x : Nat × List Int × List Bool)=>(tmL [(8,.sl (ν 3)),(7,.sl (ν 2)),(3,.ad (ν 0) 0),(2,.c (.nn (.B L)))],hpL hp0 ν [.box [.c (.I a.own),.c (.R a.nxt)],.dead,.arr 4 .yes (.B x.2.2),.arr 2 ⟨true,false⟩ (.I (x.2.1.drop x.1))])) (fun (x : Nat × List Int × List Bool)=>x.1 ≤ x.2.1.length ∧ RInv (gr a.nxt) (fun v=>gb F v = true) (fun v=>gb L v = true) a.own.length x.1 0 x.2.1 x.2.2) (fun (x : Nat × List Int × List Bool)=>a.own.length - x.1) ⟨(0,cW F a.own.length,F),?_,bU hX hN [] ?_ ?_⟩ ?_;(repeat' (first|(with_reducible first|exact bN _|exact bO|exact bP|refine bQ ?_ ?_|refine bR ?_ ?_|exact ay _|exact bL _|exact an _|rfl|exact aS _ _|refine aA ?_|exact bM _|refine aV ?_)|refine bS rfl ?_ ?_|exact aT hN _ rfl rfl rfl|exact aU hN _ rfl rfl rfl|exact aB hN _ rfl rfl rfl (Or.inr rfl)|(refine aP hN _ rfl rfl (by first|exact Or.inr rfl|exact Or.inl rfl) ?_;first|exact aM _|exact aN _)|refine aC hN rfl ?_|refine aD hN rfl rfl ?_|exact az hN _ rfl rfl|exact aE hN rfl rfl rfl rfl|(with_reducible first|refine aR ?_|refine bA ?_|refine bC ?_|refine bD ?_|refine bB ?_|refine bz ?_)));(try (any_goals (first|(with_reducible rfl)|(refine ah ?_;omega)))))
 · exact ⟨Nat.zero_le _,hA0⟩
 · rfl
 clear hA0
 rintro ⟨i,q,out⟩ ⟨hiq,hA⟩
 simp only at hiq hA
 dsimp only
 have hqn:=hA.qle
 have hqr:=hA.qr i
 have hol:=hA.ol
 have e0 : gi (q.drop i) (Int.toNat 0) = gi q i:=by rw [mM];rfl
 have e1 : (q.drop i).length = q.length - i:=by simp
 have e2 : List.drop (Int.toNat 1) (List.take (q.drop i).length (q.drop i)) = q.drop (i + 1):=by rw [List.take_length,List.drop_drop];rfl
 have hvr:=fun h : i < q.length=>(ha.vert (gi q i).toNat (by have:=hqr h;omega)).2.2.2.1
 (repeat' (first|(with_reducible first|(refine hK _ _ ?_;clear hK K)|(refine aa _ ?_;clear aa K)|refine bh ?_|refine bX ?_|refine a9 ?_|refine aq ?_|refine ap ?_|refine bY ?_|refine aG ?_|refine ba ?_|refine bZ ?_|refine bc ?_|refine bd rfl ?_|refine bi ?_|refine be ?_|refine b7 ?_|refine bf ?_|refine aF ?_|refine n_k ?_|refine bg ?_|(refine ae ?_;clear ae X af Y)|(refine af ?_;clear ae X af Y))|(with_reducible refine bo ?_;first|refine bm rfl ?_|refine bn rfl ?_)|(with_reducible refine aQ ?_;first|refine au rfl rfl rfl rfl ?_|refine aI rfl rfl rfl ?_|refine bt rfl rfl rfl rfl ?_)|((first|(with_reducible first|refine bp rfl rfl fun K hK=>?_|refine br rfl rfl fun K aa=>?_|refine aH fun X Y ae af=>?_|refine aJ ?_)|(with_reducible refine aQ ?_;refine aW rfl rfl fun X Y ae af=>?_));simp (disch:=first|decide|omega|(simp only [List.length_cons,List.length_nil];omega)) only [go_sem,beq_self_eq_true,↓aj,↓ak hN,am hN,reduceIte,reduceCtorEq,Nat.reduceAdd,Nat.reduceLT,Nat.reduceLeDiff,Nat.reduceEqDiff,Nat.reduceSub])|(with_reducible refine And.intro (fun h=>?_) (fun h=>?_) <;> try (exfalso;omega))|(with_reducible refine bj aK hN rfl ?_ ?_;kernel_rfl)|(with_reducible refine And.intro ?_ ?_)|(refine ah ?_;omega)|(exact bu hN (by decide))))
 · simp only [e0,e2]
   have hiq' : i < q.length:=by omega
   have h3:=hqr hiq'
   have hvr':=hvr hiq'
   have hvn : (gi q i).toNat < a.own.length:=by omega
   have hrw:=hrow _ hvn
   (refine cj (fun (y : Nat × List Int × List Bool)=>(tmL [(31,.c (.int .i64 y.1)),(30,.c (.int .i64 (gr a.nxt (gi q i).toNat).length)),(29,.c (.I (gr a.nxt (gi q i).toNat))),(8,.sl (ν 4)),(7,.sl (ν 2)),(3,.ad (ν 0) 0),(2,.c (.nn (.B L)))],hpL hp0 ν [.box [.c (.I a.own),.c (.R a.nxt)],.dead,.arr 4 .yes (.B y.2.2),.dead,.arr 2 ⟨true,false⟩ (.I (y.2.1.drop (i + 1)))])) (fun (y : Nat × List Int × List Bool)=>(y.1 ≤ (gr a.nxt (gi q i).toNat).length ∧ i < y.2.1.length ∧ gi y.2.1 i = gi q i) ∧ RInv (gr a.nxt) (fun v=>gb F v = true) (fun v=>gb L v = true) a.own.length i y.1 y.2.1 y.2.2) (fun (y : Nat × List Int × List Bool)=>(gr a.nxt (gi q i).toNat).length - y.1) ⟨(0,q,out),?_,bU hX hN [] ?_ ?_⟩ ?_;(repeat' (first|(with_reducible first|exact bN _|exact bO|exact bP|refine bQ ?_ ?_|refine bR ?_ ?_|exact ay _|exact bL _|exact an _|rfl|exact aS _ _|refine aA ?_|exact bM _|refine aV ?_)|refine bS rfl ?_ ?_|exact aT hN _ rfl rfl rfl|exact aU hN _ rfl rfl rfl|exact aB hN _ rfl rfl rfl (Or.inr rfl)|(refine aP hN _ rfl rfl (by first|exact Or.inr rfl|exact Or.inl rfl) ?_;first|exact aM _|exact aN _)|refine aC hN rfl ?_|refine aD hN rfl rfl ?_|exact az hN _ rfl rfl|exact aE hN rfl rfl rfl rfl|(with_reducible first|refine aR ?_|refine bA ?_|refine bC ?_|refine bD ?_|refine bB ?_|refine bz ?_)));(try (any_goals (first|(with_reducible rfl)|(refine ah ?_;omega)))))
   · exact ⟨⟨Nat.zero_le _,hiq',rfl⟩,hA⟩
   clear hA hqr e0 e1 e2
   rintro ⟨m,q',out'⟩ ⟨⟨hm,hiq2,hqe⟩,hB⟩
   simp only at hm hiq2 hqe hB
   dsimp only
   have hol':=hB.ol
   have hqn':=hB.qle
   have hw:=hrw m
   have e3 : (q'.drop (i + 1)).length = q'.length - (i + 1):=by simp
   have hds : ∀ x : Int,List.drop (i + 1) (q' ++ [x]) = List.drop (i + 1) q' ++ [x]:=fun x=>List.drop_append_of_le_length (by omega)
   (repeat' (first|(with_reducible first|(refine hK _ _ ?_;clear hK K)|(refine aa _ ?_;clear aa K)|refine bh ?_|refine bX ?_|refine a9 ?_|refine aq ?_|refine ap ?_|refine bY ?_|refine aG ?_|refine ba ?_|refine bZ ?_|refine bc ?_|refine bd rfl ?_|refine bi ?_|refine be ?_|refine b7 ?_|refine bf ?_|refine aF ?_|refine n_k ?_|refine bg ?_|(refine ae ?_;clear ae X af Y)|(refine af ?_;clear ae X af Y))|(with_reducible refine bo ?_;first|refine bm rfl ?_|refine bn rfl ?_)|(with_reducible refine aQ ?_;first|refine au rfl rfl rfl rfl ?_|refine aI rfl rfl rfl ?_|refine bt rfl rfl rfl rfl ?_)|((first|(with_reducible first|refine bp rfl rfl fun K hK=>?_|refine br rfl rfl fun K aa=>?_|refine aH fun X Y ae af=>?_|refine aJ ?_)|(with_reducible refine aQ ?_;refine aW rfl rfl fun X Y ae af=>?_));simp (disch:=first|decide|omega|(simp only [List.length_cons,List.length_nil];omega)) only [go_sem,beq_self_eq_true,↓aj,↓ak hN,am hN,reduceIte,reduceCtorEq,Nat.reduceAdd,Nat.reduceLT,Nat.reduceLeDiff,Nat.reduceEqDiff,Nat.reduceSub])|(with_reducible refine And.intro (fun h=>?_) (fun h=>?_) <;> try (exfalso;omega))|(with_reducible refine bj aK hN rfl ?_ ?_;kernel_rfl)|(with_reducible refine And.intro ?_ ?_)|(refine ah ?_;omega)|(exact bu hN (by decide))))
   · have hw':=hw (by omega)
     have hbf : gb out' (gi (gr a.nxt (gi q i).toNat) m).toNat = false:=by assumption
     have hbL : gb L (gi (gr a.nxt (gi q i).toNat) m).toNat = true:=by assumption
     (refine ⟨(m + 1,q' ++ [gi (gr a.nxt (gi q i).toNat) m],out'.set (gi (gr a.nxt (gi q i).toNat) m).toNat true),⟨?_,?_⟩,bU hX hN [(4,6)] ?_ ?_⟩;(try any_goals dsimp only);(repeat' (first|(with_reducible first|exact bN _|exact bO|exact bP|refine bQ ?_ ?_|refine bR ?_ ?_|exact ay _|exact bL _|exact an _|rfl|exact aS _ _|refine aA ?_|exact bM _|refine aV ?_)|refine bS rfl ?_ ?_|exact aT hN _ rfl rfl rfl|exact aU hN _ rfl rfl rfl|exact aB hN _ rfl rfl rfl (Or.inr rfl)|(refine aP hN _ rfl rfl (by first|exact Or.inr rfl|exact Or.inl rfl) ?_;first|exact aM _|exact aN _)|refine aC hN rfl ?_|refine aD hN rfl rfl ?_|exact az hN _ rfl rfl|exact aE hN rfl rfl rfl rfl|(with_reducible first|refine aR ?_|refine bA ?_|refine bC ?_|refine bD ?_|refine bB ?_|refine bz ?_)));(try (any_goals (first|(with_reducible rfl)|(refine ah ?_;omega)))))
     · exact ⟨⟨by omega,by simp;omega,(eC hiq2).trans hqe⟩,hB.mark hiq2 (by rw [hqe];omega) (by rw [hqe]) hw'.1 hw'.2 hbL hbf⟩
     · exact hds _
   · have hbL : gb L (gi (gr a.nxt (gi q i).toNat) m).toNat = false:=by assumption
     (refine ⟨(m + 1,q',out'),⟨?_,?_⟩,bU hX hN [] ?_ ?_⟩;(try any_goals dsimp only);(repeat' (first|(with_reducible first|exact bN _|exact bO|exact bP|refine bQ ?_ ?_|refine bR ?_ ?_|exact ay _|exact bL _|exact an _|rfl|exact aS _ _|refine aA ?_|exact bM _|refine aV ?_)|refine bS rfl ?_ ?_|exact aT hN _ rfl rfl rfl|exact aU hN _ rfl rfl rfl|exact aB hN _ rfl rfl rfl (Or.inr rfl)|(refine aP hN _ rfl rfl (by first|exact Or.inr rfl|exact Or.inl rfl) ?_;first|exact aM _|exact aN _)|refine aC hN rfl ?_|refine aD hN rfl rfl ?_|exact az hN _ rfl rfl|exact aE hN rfl rfl rfl rfl|(with_reducible first|refine aR ?_|refine bA ?_|refine bC ?_|refine bD ?_|refine bB ?_|refine bz ?_)));(try (any_goals (first|(with_reducible rfl)|(refine ah ?_;omega)))))
     exact ⟨⟨by omega,hiq2,hqe⟩,hB.skip fun hL=>by rw [hqe,hbL] at hL;cases hL⟩
   · have hbf : gb out' (gi (gr a.nxt (gi q i).toNat) m).toNat = true:=by assumption
     (refine ⟨(m + 1,q',out'),⟨?_,?_⟩,bU hX hN [] ?_ ?_⟩;(try any_goals dsimp only);(repeat' (first|(with_reducible first|exact bN _|exact bO|exact bP|refine bQ ?_ ?_|refine bR ?_ ?_|exact ay _|exact bL _|exact an _|rfl|exact aS _ _|refine aA ?_|exact bM _|refine aV ?_)|refine bS rfl ?_ ?_|exact aT hN _ rfl rfl rfl|exact aU hN _ rfl rfl rfl|exact aB hN _ rfl rfl rfl (Or.inr rfl)|(refine aP hN _ rfl rfl (by first|exact Or.inr rfl|exact Or.inl rfl) ?_;first|exact aM _|exact aN _)|refine aC hN rfl ?_|refine aD hN rfl rfl ?_|exact az hN _ rfl rfl|exact aE hN rfl rfl rfl rfl|(with_reducible first|refine aR ?_|refine bA ?_|refine bC ?_|refine bD ?_|refine bB ?_|refine bz ?_)));(try (any_goals (first|(with_reducible rfl)|(refine ah ?_;omega)))))
     exact ⟨⟨by omega,hiq2,hqe⟩,hB.skip fun _=>by rw [hqe];exact hbf⟩
   · (refine ⟨(i + 1,q',out'),⟨?_,?_⟩,bU hX hN [(3,4)] ?_ ?_⟩;(try any_goals dsimp only);(repeat' (first|(with_reducible first|exact bN _|exact bO|exact bP|refine bQ ?_ ?_|refine bR ?_ ?_|exact ay _|exact bL _|exact an _|rfl|exact aS _ _|refine aA ?_|exact bM _|refine aV ?_)|refine bS rfl ?_ ?_|exact aT hN _ rfl rfl rfl|exact aU hN _ rfl rfl rfl|exact aB hN _ rfl rfl rfl (Or.inr rfl)|(refine aP hN _ rfl rfl (by first|exact Or.inr rfl|exact Or.inl rfl) ?_;first|exact aM _|exact aN _)|refine aC hN rfl ?_|refine aD hN rfl rfl ?_|exact az hN _ rfl rfl|exact aE hN rfl rfl rfl rfl|(with_reducible first|refine aR ?_|refine bA ?_|refine bC ?_|refine bD ?_|refine bB ?_|refine bz ?_)));(try (any_goals (first|(with_reducible rfl)|(refine ah ?_;omega)))))
     exact ⟨by omega,hB.next (by rw [hqe];omega)⟩
 · (refine cV hN (i:=2) (.inr rfl) (by first|rfl|(simp (disch:=first|decide|omega|(simp only [List.length_cons,List.length_nil];omega)) only [ci,cu,cw,cx,go_sem,beq_self_eq_true,↓aj,↓ak hN,am hN,reduceIte,reduceCtorEq,Nat.reduceAdd,Nat.reduceLT,Nat.reduceLeDiff,Nat.reduceEqDiff,Nat.reduceSub];rfl)) rfl ?_ rfl)
   refine bA ?_
   exact hA.fin (by omega) (fun v hv=>by have:=tJ hv;omega) hrow
noncomputable def eX (g : Pa) (i : Int) (R ps : List Int) (k : Nat) : List Int:=kW (fun x=>¬ gi g.prio x.toNat % 2 = i ∧ iD g R ps x) R k
theorem n8 {g : Pa} {i : Int} {R ps : List Int} : eX g i R ps R.length = [] ↔ kM g i R ps:=by
 unfold eX
 rw [tp _ (Nat.le_refl _)]
 refine forall_congr' fun j=>forall_congr' fun _=>?_
 constructor
 · intro h
   by_cases e : gi g.prio (gi R j).toNat % 2 = i
   · exact .inl e
   · exact .inr fun hb=>h ⟨e,hb⟩
 · rintro (h|h) ⟨a,b⟩
   · exact a h
   · exact h b
noncomputable def gA (g : Pa) (R : List Int) (v : Nat) : List Bool:=mks g.prio.length fun u=>(u : Int) ∈ R ∧ gi g.prio u ≤ gi g.prio v
theorem qt {g : Pa} (hg : PaOk g) {ps : List Int} (hp : ec g ps) {R : List Int} {v : Nat} (hv : v < g.prio.length) : PG.Way (edR (gr (cN g.ar ps).nxt)) (fun u=>gb (gA g R v) u = true) v v ↔ iD g R ps v:=by
 have hok:=dO hg hp
 have hl:=hg.len
 have hrow : ∀ x,x < g.prio.length → ∀ t,t < (gr (cN g.ar ps).nxt x).length → 0 ≤ gi (gr (cN g.ar ps).nxt x) t ∧ gi (gr (cN g.ar ps).nxt x) t < g.prio.length:=fun x hx t ht=>by
  have h1:=(hok.ar.vert x (by show x < g.ar.own.length;omega)).2.2.2.2 t ht
  have h2 : gi (gr (cN g.ar ps).nxt x) t < (g.ar.own.length : Int):=h1.2.1
  exact ⟨h1.1,by omega⟩
 unfold iD
 rw [Int.toNat_natCast]
 constructor
 · intro h
   refine h.mono (Q:=fun x=>x < g.prio.length) (fun x y hx ⟨t,ht,e⟩=>?_) (fun x hx=>(iE.1 hx).1) (fun x hx=>(iE.1 hx).2) hv
   have:=hrow x hx t ht
   exact (fK _ _).2 ⟨hx,by show y < g.prio.length;omega,t,ht,e⟩
 · intro h
   have hin : ∀ {y},PG.Way (pgP (dj g ps)).E (fun u : Nat=>(u : Int) ∈ R ∧ gi g.prio u ≤ gi g.prio v) v y → PG.Way (edR (gr (cN g.ar ps).nxt)) (fun u=>gb (gA g R v) u = true) v y:=by
    intro y h
    induction h with
    | one he l =>
      obtain ⟨a,b,c⟩:=(fK _ _).1 he
      exact .one c (iE.2 ⟨b,l⟩)
    | more t he l ih =>
      obtain ⟨a,b,c⟩:=(fK _ _).1 he
      exact .more ih c (iE.2 ⟨b,l⟩)
   exact hin h
theorem kR {n u : Nat} {p q : Nat → Prop} {b : Bool} (hu : u < n) (hb : b = tf (q u)) (h : ∀ v,v < n → v ≠ u → (q v ↔ p v)) : (mks n p).set u b = mks n q:=by
 refine eu (by rw [List.length_set];exact cK _ _) fun v hv=>?_
 rw [ez (by rw [cK];exact hu)]
 by_cases e : v = u
 · subst e;rw [if_pos rfl,hb]
 · rw [if_neg e,dU _ hv];exact (dY (h v hv e)).symm
theorem pt {n : Nat} : List.replicate n false = mks n fun _=>False :=
 eu List.length_replicate fun v _=>by rw [po,aX fun h=>h]
noncomputable def pw (g : Pa) (R ps : List Int) (v t : Nat) : List Bool:=mks g.prio.length fun u=>(∃ s,s < t ∧ gi (gr (cN g.ar ps).nxt v) s = u) ∧ gb (gA g R v) u = true
theorem rD {g : Pa} (hg : PaOk g) {ps : List Int} (hp : ec g ps) {R : List Int} {v : Nat} (hv : v < g.prio.length) : gb (mks (cN g.ar ps).own.length (Rch (edR (gr (cN g.ar ps).nxt)) (fun u=>gb (pw g R ps v (gr (cN g.ar ps).nxt v).length) u = true) (fun u=>gb (gA g R v) u = true))) v = true ↔ iD g R ps v:=by
 have hl:=hg.len
 rw [iE,uP (E:=edR (gr (cN g.ar ps).nxt)) (v:=v) fun u=>?_,qt hg hp hv]
 · exact ⟨fun h=>h.2,fun h=>⟨by show v < g.ar.own.length;omega,h⟩⟩
 · unfold pw
   rw [iE]
   refine ⟨fun h=>h.2,fun h=>⟨?_,h⟩⟩
   have:=tJ h.2
   unfold gA at this
   rwa [cK] at this
set_option maxHeartbeats 2000000 in
theorem n9 (g : Pa) (hg : PaOk g) (i : Int) (R ps : List Int) (hR : db R g.prio.length) (hp : ec g ps) : aL Try.prog 155 [paA g,.c (.int .i64 i),.c (.I R),.c (.I ps)] [.arr 2 .yes (.I (eX g i R ps R.length))] (fun ns=>.sl (ns.getD 0 0)):=by
 have hl:=hg.len
 have hle:=hg.ar.le
 have hpl:=hp.1
 have hok:=dO hg hp
 have hRl:=fe hR (by omega)
 have hf:=rl g.ar hg.ar ps (by omega)
 have hpr:=hg.prio
 have hvert : ∀ x,x < g.prio.length → (gr (cN g.ar ps).nxt x).length ≤ 16 ∧ ∀ t,t < (gr (cN g.ar ps).nxt x).length → 0 ≤ gi (gr (cN g.ar ps).nxt x) t ∧ gi (gr (cN g.ar ps).nxt x) t < g.prio.length:=fun x hx=>by
  have h0:=hok.ar.vert x (by show x < g.ar.own.length;omega)
  refine ⟨h0.2.2.2.1,fun t ht=>?_⟩
  have h1:=h0.2.2.2.2 t ht
  have h2 : gi (gr (cN g.ar ps).nxt x) t < (g.ar.own.length : Int):=h1.2.1
  exact ⟨h1.1,by omega⟩
 have hxl : (cN g.ar ps).nxt.length = g.prio.length:=by have:=hok.ar.len;rw [hl];exact this
 (refine bK aK Try.func155 rfl rfl (by kernel_rfl) fun hp0 ν hX hN=>?_;simp only [cG,Nat.reduceAdd])
 (repeat' (first|(with_reducible first|(refine hK _ _ ?_;clear hK K)|(refine aa _ ?_;clear aa K)|(refine ab _ _ _ ?_;clear ab K)|(refine ac _ _ ?_;clear ac K)|refine bh ?_|refine bX ?_|refine a9 ?_|refine aq ?_|refine ap ?_|refine bY ?_|refine aG ?_|refine ba ?_|refine bZ ?_|refine bc ?_|refine bd rfl ?_|refine bi ?_|refine be ?_|refine b7 ?_|refine bf ?_|refine aF ?_|refine n_k ?_|refine bg ?_|(refine ae ?_;clear ae X af Y)|(refine af ?_;clear ae X af Y))|(with_reducible refine bo ?_;first|refine bm rfl ?_|refine bn rfl ?_)|(with_reducible refine aQ ?_;first|refine au rfl rfl rfl rfl ?_|refine aI rfl rfl rfl ?_|refine bt rfl rfl rfl rfl ?_)|(with_reducible refine ce ?_;first|refine bE rfl rfl rfl rfl ?_|refine b9 rfl rfl rfl ?_|refine cn rfl rfl rfl rfl ?_|refine co hN (by apply Exists.intro;apply And.intro;(repeat' (first|apply FtI.nil|apply FI.nil|apply FI.cons|apply FtI.cons));kernel_rfl) ?_)|((first|(with_reducible first|refine bp rfl rfl fun K hK=>?_|refine ck rfl rfl fun K ab=>?_|refine br rfl rfl fun K aa=>?_|refine cm rfl rfl fun K ac=>?_|refine aH fun X Y ae af=>?_|refine aJ ?_));simp (disch:=first|decide|omega|(simp only [List.length_cons,List.length_nil];omega)) only [go_sem,beq_self_eq_true,↓aj,↓ak hN,am hN,reduceIte,reduceCtorEq,Nat.reduceAdd,Nat.reduceLT,Nat.reduceLeDiff,Nat.reduceEqDiff,Nat.reduceSub])|(with_reducible refine And.intro (fun h=>?_) (fun h=>?_) <;> try (exfalso;omega))|(with_reducible refine bj aK hN rfl ?_ ?_;kernel_rfl)|(with_reducible refine bF aK hN rfl ?_ ?_ ?_ ?_;(kernel_rfl);(kernel_rfl);(kernel_rfl))|(refine dQ (hf) ?_ rfl rfl ?_;focus ((repeat' (first|(with_reducible first|exact ax|refine ao ?_ ?_|exact cg _|refine bv ?_|exact a8 _|exact bJ _ _|refine bI ?_|exact aY _)|exact bw hN rfl rfl|(refine bG hN rfl ?_;first|exact aM _|exact aN _)|exact aZ rfl rfl rfl));done))|(with_reducible first|exact ax|refine ao ?_ ?_|exact cg _|refine bv ?_|exact a8 _|exact bJ _ _|refine bI ?_|exact aY _)|exact bw hN rfl rfl|(refine bG hN rfl ?_;first|exact aM _|exact aN _)|exact aZ rfl rfl rfl|(simp only [bW,List.map_nil])|(with_reducible refine b8 ?_)|(with_reducible refine And.intro ?_ ?_)|(refine ah ?_;omega)|(exact bu hN (by decide))))
 (refine cj (fun (k : Nat)=>(tmL [(26,.c (.int .i64 k)),(25,.c (.int .i64 R.length)),(24,.c (.I R)),(10,.sl (ν 2)),(9,.ad (ν 1) 0),(4,.ad (ν 0) 0),(1,.c (.int .i64 i)),(2,.c (.I R))],hpL hp0 ν [.box [.c (.I g.ar.own),.c (.R g.ar.nxt),.c (.I g.prio)],.box [.c (.I (cN g.ar ps).own),.c (.R (cN g.ar ps).nxt)],.arr 2 .yes (.I (eX g i R ps k))])) (fun (k : Nat)=>k ≤ R.length) (fun (k : Nat)=>R.length - k) ⟨0,?_,bU hX hN [] ?_ ?_⟩ ?_;(repeat' (first|(with_reducible first|exact bN _|exact bO|exact bP|refine bQ ?_ ?_|refine bR ?_ ?_|exact ay _|exact bL _|exact an _|rfl|exact aS _ _|refine aA ?_|exact bM _|refine aV ?_)|refine bS rfl ?_ ?_|exact aT hN _ rfl rfl rfl|exact aU hN _ rfl rfl rfl|exact aB hN _ rfl rfl rfl (Or.inr rfl)|(refine aP hN _ rfl rfl (by first|exact Or.inr rfl|exact Or.inl rfl) ?_;first|exact aM _|exact aN _)|refine aC hN rfl ?_|refine aD hN rfl rfl ?_|exact az hN _ rfl rfl|exact aE hN rfl rfl rfl rfl|(with_reducible first|refine aR ?_|refine bA ?_|refine bC ?_|refine bD ?_|refine bB ?_|refine bz ?_)));(try (any_goals (first|(with_reducible rfl)|(refine ah ?_;omega)))))
 · rfl
 intro k hk
 have hbl : (eX g i R ps k).length ≤ k:=j7 _ _ _
 rcases Nat.lt_or_ge k R.length with hkl|hkl
 · have hb:=hR k hkl
   have hvn : (gi R k).toNat < g.prio.length:=by omega
   have hve : ((gi R k).toNat : Int) = gi R k:=Int.toNat_of_nonneg hb.1
   have hpv:=hpr _ hvn
   obtain ⟨hrl,hrw⟩:=hvert _ hvn
   have hmod : (gi g.prio (gi R k).toNat).tmod 2 = gi g.prio (gi R k).toNat % 2:=Int.tmod_eq_emod_of_nonneg hpv.1
   have hno : (gi g.prio (gi R k).toNat).tmod 2 = i → eX g i R ps (k + 1) = eX g i R ps k:=fun e=>gV fun h=>h.1 (by rw [← hmod];exact e)
   have hno2 : ¬ iD g R ps (gi R k) → eX g i R ps (k + 1) = eX g i R ps k:=fun e=>gV fun h=>e h.2
   have hyes : (gi g.prio (gi R k).toNat).tmod 2 ≠ i → iD g R ps (gi R k) → eX g i R ps (k + 1) = eX g i R ps k ++ [gi R k]:=fun e h =>
    iG (p:=fun x=>¬ gi g.prio x.toNat % 2 = i ∧ iD g R ps x) (xs:=R) (k:=k) ⟨by rw [← hmod];exact e,h⟩
   have hrb:=rD (R:=R) hg hp hvn
   rw [hve] at hrb
   have hll : (gA g R (gi R k).toNat).length = g.prio.length:=cK _ _
   have hfl : ∀ t,(pw g R ps (gi R k).toNat t).length = g.prio.length:=fun t=>cK _ _
   have hri:=pq (cN g.ar ps) hok.ar (pw g R ps (gi R k).toNat (gr (cN g.ar ps).nxt (gi R k).toNat).length) (gA g R (gi R k).toNat) (by rw [hfl];exact hl) (by rw [hll];exact hl)
   have hmm : (mks (cN g.ar ps).own.length (Rch (edR (gr (cN g.ar ps).nxt)) (fun u=>gb (pw g R ps (gi R k).toNat (gr (cN g.ar ps).nxt (gi R k).toNat).length) u = true) (fun u=>gb (gA g R (gi R k).toNat) u = true))).length = g.prio.length:=(cK _ _).trans hl.symm
   generalize mks (cN g.ar ps).own.length (Rch (edR (gr (cN g.ar ps).nxt)) (fun u=>gb (pw g R ps (gi R k).toNat (gr (cN g.ar ps).nxt (gi R k).toNat).length) u = true) (fun u=>gb (gA g R (gi R k).toNat) u = true)) = mm at *
   (repeat' (first|(with_reducible first|(refine hK _ _ ?_;clear hK K)|(refine aa _ ?_;clear aa K)|(refine ab _ _ _ ?_;clear ab K)|(refine ac _ _ ?_;clear ac K)|refine bh ?_|refine bX ?_|refine a9 ?_|refine aq ?_|refine ap ?_|refine bY ?_|refine aG ?_|refine ba ?_|refine bZ ?_|refine bc ?_|refine bd rfl ?_|refine bi ?_|refine be ?_|refine b7 ?_|refine bf ?_|refine aF ?_|refine n_k ?_|refine bg ?_|(refine ae ?_;clear ae X af Y)|(refine af ?_;clear ae X af Y))|(with_reducible refine bo ?_;first|refine bm rfl ?_|refine bn rfl ?_)|(with_reducible refine aQ ?_;first|refine au rfl rfl rfl rfl ?_|refine aI rfl rfl rfl ?_|refine bt rfl rfl rfl rfl ?_)|(with_reducible refine ce ?_;first|refine bE rfl rfl rfl rfl ?_|refine b9 rfl rfl rfl ?_|refine cn rfl rfl rfl rfl ?_|refine co hN (by apply Exists.intro;apply And.intro;(repeat' (first|apply FtI.nil|apply FI.nil|apply FI.cons|apply FtI.cons));kernel_rfl) ?_)|((first|(with_reducible first|refine bp rfl rfl fun K hK=>?_|refine ck rfl rfl fun K ab=>?_|refine br rfl rfl fun K aa=>?_|refine cm rfl rfl fun K ac=>?_|refine aH fun X Y ae af=>?_|refine aJ ?_));simp (disch:=first|decide|omega|(simp only [List.length_cons,List.length_nil];omega)) only [go_sem,beq_self_eq_true,↓aj,↓ak hN,am hN,reduceIte,reduceCtorEq,Nat.reduceAdd,Nat.reduceLT,Nat.reduceLeDiff,Nat.reduceEqDiff,Nat.reduceSub])|(with_reducible refine And.intro (fun h=>?_) (fun h=>?_) <;> try (exfalso;omega))|(with_reducible refine bj aK hN rfl ?_ ?_;kernel_rfl)|(with_reducible refine bF aK hN rfl ?_ ?_ ?_ ?_;(kernel_rfl);(kernel_rfl);(kernel_rfl))|(with_reducible refine And.intro ?_ ?_)|(refine ah ?_;omega)|(exact bu hN (by decide))))
   · (refine ⟨k + 1,⟨?_,?_⟩,bU hX hN [] ?_ ?_⟩;(try any_goals dsimp only);(repeat' (first|(with_reducible first|exact bN _|exact bO|exact bP|refine bQ ?_ ?_|refine bR ?_ ?_|exact ay _|exact bL _|exact an _|rfl|exact aS _ _|refine aA ?_|exact bM _|refine aV ?_)|refine bS rfl ?_ ?_|exact aT hN _ rfl rfl rfl|exact aU hN _ rfl rfl rfl|exact aB hN _ rfl rfl rfl (Or.inr rfl)|(refine aP hN _ rfl rfl (by first|exact Or.inr rfl|exact Or.inl rfl) ?_;first|exact aM _|exact aN _)|refine aC hN rfl ?_|refine aD hN rfl rfl ?_|exact az hN _ rfl rfl|exact aE hN rfl rfl rfl rfl|(with_reducible first|refine aR ?_|refine bA ?_|refine bC ?_|refine bD ?_|refine bB ?_|refine bz ?_)));(try (any_goals (first|(with_reducible rfl)|(refine ah ?_;omega)))))
     exact hno (by assumption)
   have hodd : (gi g.prio (gi R k).toNat).tmod 2 ≠ i:=dq (by assumption)
   (refine cj (fun (j : Nat)=>(tmL [(44,.c (.int .i64 j)),(43,.c (.int .i64 R.length)),(42,.c (.I R)),(13,.sl (ν 3)),(12,.c (.int .i64 (gi R k))),(26,.c (.int .i64 k)),(25,.c (.int .i64 R.length)),(24,.c (.I R)),(10,.sl (ν 2)),(9,.ad (ν 1) 0),(4,.ad (ν 0) 0),(1,.c (.int .i64 i)),(2,.c (.I R))],hpL hp0 ν [.box [.c (.I g.ar.own),.c (.R g.ar.nxt),.c (.I g.prio)],.box [.c (.I (cN g.ar ps).own),.c (.R (cN g.ar ps).nxt)],.arr 2 .yes (.I (eX g i R ps k)),.arr 4 .yes (.B (mks g.prio.length fun u=>(∃ s,s < j ∧ gi R s = u) ∧ gi g.prio u ≤ gi g.prio (gi R k).toNat))])) (fun (j : Nat)=>j ≤ R.length) (fun (j : Nat)=>R.length - j) ⟨0,?_,bU hX hN [] ?_ ?_⟩ ?_;(repeat' (first|(with_reducible first|exact bN _|exact bO|exact bP|refine bQ ?_ ?_|refine bR ?_ ?_|exact ay _|exact bL _|exact an _|rfl|exact aS _ _|refine aA ?_|exact bM _|refine aV ?_)|refine bS rfl ?_ ?_|exact aT hN _ rfl rfl rfl|exact aU hN _ rfl rfl rfl|exact aB hN _ rfl rfl rfl (Or.inr rfl)|(refine aP hN _ rfl rfl (by first|exact Or.inr rfl|exact Or.inl rfl) ?_;first|exact aM _|exact aN _)|refine aC hN rfl ?_|refine aD hN rfl rfl ?_|exact az hN _ rfl rfl|exact aE hN rfl rfl rfl rfl|(with_reducible first|refine aR ?_|refine bA ?_|refine bC ?_|refine bD ?_|refine bB ?_|refine bz ?_)));(try (any_goals (first|(with_reducible rfl)|(refine ah ?_;omega)))))
   · exact (pt.trans (ff fun u _=>⟨fun h=>h.elim,fun ⟨⟨s,h,_⟩,_⟩=>absurd h (Nat.not_lt_zero _)⟩)).symm
   intro j hj
   have hml:=cK g.prio.length fun u=>(∃ s,s < j ∧ gi R s = u) ∧ gi g.prio u ≤ gi g.prio (gi R k).toNat
   by_cases hjl : j < R.length
   · have hbj:=hR j hjl
     (repeat' (first|(with_reducible first|(refine hK _ _ ?_;clear hK K)|(refine aa _ ?_;clear aa K)|(refine ab _ _ _ ?_;clear ab K)|(refine ac _ _ ?_;clear ac K)|refine bh ?_|refine bX ?_|refine a9 ?_|refine aq ?_|refine ap ?_|refine bY ?_|refine aG ?_|refine ba ?_|refine bZ ?_|refine bc ?_|refine bd rfl ?_|refine bi ?_|refine be ?_|refine b7 ?_|refine bf ?_|refine aF ?_|refine n_k ?_|refine bg ?_|(refine ae ?_;clear ae X af Y)|(refine af ?_;clear ae X af Y))|(with_reducible refine bo ?_;first|refine bm rfl ?_|refine bn rfl ?_)|(with_reducible refine aQ ?_;first|refine au rfl rfl rfl rfl ?_|refine aI rfl rfl rfl ?_|refine bt rfl rfl rfl rfl ?_)|(with_reducible refine ce ?_;first|refine bE rfl rfl rfl rfl ?_|refine b9 rfl rfl rfl ?_|refine cn rfl rfl rfl rfl ?_|refine co hN (by apply Exists.intro;apply And.intro;(repeat' (first|apply FtI.nil|apply FI.nil|apply FI.cons|apply FtI.cons));kernel_rfl) ?_)|((first|(with_reducible first|refine bp rfl rfl fun K hK=>?_|refine ck rfl rfl fun K ab=>?_|refine br rfl rfl fun K aa=>?_|refine cm rfl rfl fun K ac=>?_|refine aH fun X Y ae af=>?_|refine aJ ?_));simp (disch:=first|decide|omega|(simp only [List.length_cons,List.length_nil];omega)) only [go_sem,beq_self_eq_true,↓aj,↓ak hN,am hN,reduceIte,reduceCtorEq,Nat.reduceAdd,Nat.reduceLT,Nat.reduceLeDiff,Nat.reduceEqDiff,Nat.reduceSub])|(with_reducible refine And.intro (fun h=>?_) (fun h=>?_) <;> try (exfalso;omega))|(with_reducible refine bj aK hN rfl ?_ ?_;kernel_rfl)|(with_reducible refine bF aK hN rfl ?_ ?_ ?_ ?_;(kernel_rfl);(kernel_rfl);(kernel_rfl))|(with_reducible refine And.intro ?_ ?_)|(refine ah ?_;omega)|(exact bu hN (by decide))))
     (refine ⟨j + 1,⟨?_,?_⟩,bU hX hN [] ?_ ?_⟩;(try any_goals dsimp only);(repeat' (first|(with_reducible first|exact bN _|exact bO|exact bP|refine bQ ?_ ?_|refine bR ?_ ?_|exact ay _|exact bL _|exact an _|rfl|exact aS _ _|refine aA ?_|exact bM _|refine aV ?_)|refine bS rfl ?_ ?_|exact aT hN _ rfl rfl rfl|exact aU hN _ rfl rfl rfl|exact aB hN _ rfl rfl rfl (Or.inr rfl)|(refine aP hN _ rfl rfl (by first|exact Or.inr rfl|exact Or.inl rfl) ?_;first|exact aM _|exact aN _)|refine aC hN rfl ?_|refine aD hN rfl rfl ?_|exact az hN _ rfl rfl|exact aE hN rfl rfl rfl rfl|(with_reducible first|refine aR ?_|refine bA ?_|refine bC ?_|refine bD ?_|refine bB ?_|refine bz ?_)));(try (any_goals (first|(with_reducible rfl)|(refine ah ?_;omega)))))
     refine (kR (by omega) ?_ fun u hu hne=>?_).symm
     · exact oW ⟨fun h=>⟨⟨j,by omega,by omega⟩,h⟩,fun h=>h.2⟩
     · refine and_congr_left fun _=>⟨?_,fun ⟨s,h1,h2⟩=>⟨s,by omega,h2⟩⟩
       rintro ⟨s,h1,h2⟩
       exact ⟨s,by
        by_cases e : s = j
        · subst e;exact absurd (by omega) hne
        · omega,h2⟩
   have hlow : (mks g.prio.length fun u=>(∃ s,s < j ∧ gi R s = u) ∧ gi g.prio u ≤ gi g.prio (gi R k).toNat) = gA g R (gi R k).toNat:=ff fun u _=>by
    rw [show j = R.length by omega,io]
   rw [hlow]
   clear hlow hml
   (repeat' (first|(with_reducible first|(refine hK _ _ ?_;clear hK K)|(refine aa _ ?_;clear aa K)|(refine ab _ _ _ ?_;clear ab K)|(refine ac _ _ ?_;clear ac K)|refine bh ?_|refine bX ?_|refine a9 ?_|refine aq ?_|refine ap ?_|refine bY ?_|refine aG ?_|refine ba ?_|refine bZ ?_|refine bc ?_|refine bd rfl ?_|refine bi ?_|refine be ?_|refine b7 ?_|refine bf ?_|refine aF ?_|refine n_k ?_|refine bg ?_|(refine ae ?_;clear ae X af Y)|(refine af ?_;clear ae X af Y))|(with_reducible refine bo ?_;first|refine bm rfl ?_|refine bn rfl ?_)|(with_reducible refine aQ ?_;first|refine au rfl rfl rfl rfl ?_|refine aI rfl rfl rfl ?_|refine bt rfl rfl rfl rfl ?_)|(with_reducible refine ce ?_;first|refine bE rfl rfl rfl rfl ?_|refine b9 rfl rfl rfl ?_|refine cn rfl rfl rfl rfl ?_|refine co hN (by apply Exists.intro;apply And.intro;(repeat' (first|apply FtI.nil|apply FI.nil|apply FI.cons|apply FtI.cons));kernel_rfl) ?_)|((first|(with_reducible first|refine bp rfl rfl fun K hK=>?_|refine ck rfl rfl fun K ab=>?_|refine br rfl rfl fun K aa=>?_|refine cm rfl rfl fun K ac=>?_|refine aH fun X Y ae af=>?_|refine aJ ?_));simp (disch:=first|decide|omega|(simp only [List.length_cons,List.length_nil];omega)) only [go_sem,beq_self_eq_true,↓aj,↓ak hN,am hN,reduceIte,reduceCtorEq,Nat.reduceAdd,Nat.reduceLT,Nat.reduceLeDiff,Nat.reduceEqDiff,Nat.reduceSub])|(with_reducible refine And.intro (fun h=>?_) (fun h=>?_) <;> try (exfalso;omega))|(with_reducible refine bj aK hN rfl ?_ ?_;kernel_rfl)|(with_reducible refine bF aK hN rfl ?_ ?_ ?_ ?_;(kernel_rfl);(kernel_rfl);(kernel_rfl))|(with_reducible refine And.intro ?_ ?_)|(refine ah ?_;omega)|(exact bu hN (by decide))))
   (refine cj (fun (t : Nat)=>(tmL [(73,.c (.int .i64 t)),(72,.c (.int .i64 (gr (cN g.ar ps).nxt (gi R k).toNat).length)),(71,.c (.I (gr (cN g.ar ps).nxt (gi R k).toNat))),(16,.sl (ν 4)),(13,.sl (ν 3)),(12,.c (.int .i64 (gi R k))),(26,.c (.int .i64 k)),(25,.c (.int .i64 R.length)),(24,.c (.I R)),(10,.sl (ν 2)),(9,.ad (ν 1) 0),(4,.ad (ν 0) 0),(1,.c (.int .i64 i)),(2,.c (.I R))],hpL hp0 ν [.box [.c (.I g.ar.own),.c (.R g.ar.nxt),.c (.I g.prio)],.box [.c (.I (cN g.ar ps).own),.c (.R (cN g.ar ps).nxt)],.arr 2 .yes (.I (eX g i R ps k)),.arr 4 .yes (.B (gA g R (gi R k).toNat)),.arr 4 .yes (.B (pw g R ps (gi R k).toNat t))])) (fun (t : Nat)=>t ≤ (gr (cN g.ar ps).nxt (gi R k).toNat).length) (fun (t : Nat)=>(gr (cN g.ar ps).nxt (gi R k).toNat).length - t) ⟨0,?_,bU hX hN [] ?_ ?_⟩ ?_;(repeat' (first|(with_reducible first|exact bN _|exact bO|exact bP|refine bQ ?_ ?_|refine bR ?_ ?_|exact ay _|exact bL _|exact an _|rfl|exact aS _ _|refine aA ?_|exact bM _|refine aV ?_)|refine bS rfl ?_ ?_|exact aT hN _ rfl rfl rfl|exact aU hN _ rfl rfl rfl|exact aB hN _ rfl rfl rfl (Or.inr rfl)|(refine aP hN _ rfl rfl (by first|exact Or.inr rfl|exact Or.inl rfl) ?_;first|exact aM _|exact aN _)|refine aC hN rfl ?_|refine aD hN rfl rfl ?_|exact az hN _ rfl rfl|exact aE hN rfl rfl rfl rfl|(with_reducible first|refine aR ?_|refine bA ?_|refine bC ?_|refine bD ?_|refine bB ?_|refine bz ?_)));(try (any_goals (first|(with_reducible rfl)|(refine ah ?_;omega)))))
   · exact (pt.trans (ff fun u _=>⟨fun h=>h.elim,fun ⟨⟨s,h,_⟩,_⟩=>absurd h (Nat.not_lt_zero _)⟩)).symm
   intro t ht
   have hft:=hfl t
   by_cases htl : t < (gr (cN g.ar ps).nxt (gi R k).toNat).length
   · have hbt:=hrw t htl
     (repeat' (first|(with_reducible first|(refine hK _ _ ?_;clear hK K)|(refine aa _ ?_;clear aa K)|(refine ab _ _ _ ?_;clear ab K)|(refine ac _ _ ?_;clear ac K)|refine bh ?_|refine bX ?_|refine a9 ?_|refine aq ?_|refine ap ?_|refine bY ?_|refine aG ?_|refine ba ?_|refine bZ ?_|refine bc ?_|refine bd rfl ?_|refine bi ?_|refine be ?_|refine b7 ?_|refine bf ?_|refine aF ?_|refine n_k ?_|refine bg ?_|(refine ae ?_;clear ae X af Y)|(refine af ?_;clear ae X af Y))|(with_reducible refine bo ?_;first|refine bm rfl ?_|refine bn rfl ?_)|(with_reducible refine aQ ?_;first|refine au rfl rfl rfl rfl ?_|refine aI rfl rfl rfl ?_|refine bt rfl rfl rfl rfl ?_)|(with_reducible refine ce ?_;first|refine bE rfl rfl rfl rfl ?_|refine b9 rfl rfl rfl ?_|refine cn rfl rfl rfl rfl ?_|refine co hN (by apply Exists.intro;apply And.intro;(repeat' (first|apply FtI.nil|apply FI.nil|apply FI.cons|apply FtI.cons));kernel_rfl) ?_)|((first|(with_reducible first|refine bp rfl rfl fun K hK=>?_|refine ck rfl rfl fun K ab=>?_|refine br rfl rfl fun K aa=>?_|refine cm rfl rfl fun K ac=>?_|refine aH fun X Y ae af=>?_|refine aJ ?_));simp (disch:=first|decide|omega|(simp only [List.length_cons,List.length_nil];omega)) only [go_sem,beq_self_eq_true,↓aj,↓ak hN,am hN,reduceIte,reduceCtorEq,Nat.reduceAdd,Nat.reduceLT,Nat.reduceLeDiff,Nat.reduceEqDiff,Nat.reduceSub])|(with_reducible refine And.intro (fun h=>?_) (fun h=>?_) <;> try (exfalso;omega))|(with_reducible refine bj aK hN rfl ?_ ?_;kernel_rfl)|(with_reducible refine bF aK hN rfl ?_ ?_ ?_ ?_;(kernel_rfl);(kernel_rfl);(kernel_rfl))|(with_reducible refine And.intro ?_ ?_)|(refine ah ?_;omega)|(exact bu hN (by decide))))
     (refine ⟨t + 1,⟨?_,?_⟩,bU hX hN [] ?_ ?_⟩;(try any_goals dsimp only);(repeat' (first|(with_reducible first|exact bN _|exact bO|exact bP|refine bQ ?_ ?_|refine bR ?_ ?_|exact ay _|exact bL _|exact an _|rfl|exact aS _ _|refine aA ?_|exact bM _|refine aV ?_)|refine bS rfl ?_ ?_|exact aT hN _ rfl rfl rfl|exact aU hN _ rfl rfl rfl|exact aB hN _ rfl rfl rfl (Or.inr rfl)|(refine aP hN _ rfl rfl (by first|exact Or.inr rfl|exact Or.inl rfl) ?_;first|exact aM _|exact aN _)|refine aC hN rfl ?_|refine aD hN rfl rfl ?_|exact az hN _ rfl rfl|exact aE hN rfl rfl rfl rfl|(with_reducible first|refine aR ?_|refine bA ?_|refine bC ?_|refine bD ?_|refine bB ?_|refine bz ?_)));(try (any_goals (first|(with_reducible rfl)|(refine ah ?_;omega)))))
     refine (kR (by omega) ?_ fun u hu hne=>?_).symm
     · by_cases hb' : gb (gA g R (gi R k).toNat) (gi (gr (cN g.ar ps).nxt (gi R k).toNat) t).toNat = true
       · rw [hb',bV]
         exact ⟨⟨t,by omega,by omega⟩,rfl⟩
       · rw [aX fun h=>hb' h.2]
         simpa using hb'
     · refine and_congr_left fun _=>⟨?_,fun ⟨s,h1,h2⟩=>⟨s,by omega,h2⟩⟩
       rintro ⟨s,h1,h2⟩
       exact ⟨s,by
        by_cases e : s = t
        · subst e;exact absurd (by omega) hne
        · omega,h2⟩
   obtain rfl : t = (gr (cN g.ar ps).nxt (gi R k).toNat).length:=by omega
   (repeat' (first|(with_reducible first|(refine hK _ _ ?_;clear hK K)|(refine aa _ ?_;clear aa K)|(refine ab _ _ _ ?_;clear ab K)|(refine ac _ _ ?_;clear ac K)|refine bh ?_|refine bX ?_|refine a9 ?_|refine aq ?_|refine ap ?_|refine bY ?_|refine aG ?_|refine ba ?_|refine bZ ?_|refine bc ?_|refine bd rfl ?_|refine bi ?_|refine be ?_|refine b7 ?_|refine bf ?_|refine aF ?_|refine n_k ?_|refine bg ?_|(refine ae ?_;clear ae X af Y)|(refine af ?_;clear ae X af Y))|(with_reducible refine bo ?_;first|refine bm rfl ?_|refine bn rfl ?_)|(with_reducible refine aQ ?_;first|refine au rfl rfl rfl rfl ?_|refine aI rfl rfl rfl ?_|refine bt rfl rfl rfl rfl ?_)|(with_reducible refine ce ?_;first|refine bE rfl rfl rfl rfl ?_|refine b9 rfl rfl rfl ?_|refine cn rfl rfl rfl rfl ?_|refine co hN (by apply Exists.intro;apply And.intro;(repeat' (first|apply FtI.nil|apply FI.nil|apply FI.cons|apply FtI.cons));kernel_rfl) ?_)|((first|(with_reducible first|refine bp rfl rfl fun K hK=>?_|refine ck rfl rfl fun K ab=>?_|refine br rfl rfl fun K aa=>?_|refine cm rfl rfl fun K ac=>?_|refine aH fun X Y ae af=>?_|refine aJ ?_));simp (disch:=first|decide|omega|(simp only [List.length_cons,List.length_nil];omega)) only [go_sem,beq_self_eq_true,↓aj,↓ak hN,am hN,reduceIte,reduceCtorEq,Nat.reduceAdd,Nat.reduceLT,Nat.reduceLeDiff,Nat.reduceEqDiff,Nat.reduceSub])|(with_reducible refine And.intro (fun h=>?_) (fun h=>?_) <;> try (exfalso;omega))|(with_reducible refine bj aK hN rfl ?_ ?_;kernel_rfl)|(with_reducible refine bF aK hN rfl ?_ ?_ ?_ ?_;(kernel_rfl);(kernel_rfl);(kernel_rfl))|(refine aO (hri) ?_ rfl (fun _=>rfl) ?_;focus ((repeat' (first|(with_reducible first|exact ax|refine ao ?_ ?_|exact cg _|refine bv ?_|exact a8 _|exact bJ _ _|refine bI ?_|exact aY _)|exact bw hN rfl rfl|(refine bG hN rfl ?_;first|exact aM _|exact aN _)|exact aZ rfl rfl rfl));done))|(with_reducible first|exact ax|refine ao ?_ ?_|exact cg _|refine bv ?_|exact a8 _|exact bJ _ _|refine bI ?_|exact aY _)|exact bw hN rfl rfl|(refine bG hN rfl ?_;first|exact aM _|exact aN _)|exact aZ rfl rfl rfl|(simp only [bW,List.map_nil])|(with_reducible refine b8 ?_)|(with_reducible refine And.intro ?_ ?_)|(refine ah ?_;omega)|(exact bu hN (by decide))))
   · have hbt : gb mm (gi R k).toNat = true:=by assumption
     (refine ⟨k + 1,⟨?_,?_⟩,bU hX hN [(2,7)] ?_ ?_⟩;(try any_goals dsimp only);(repeat' (first|(with_reducible first|exact bN _|exact bO|exact bP|refine bQ ?_ ?_|refine bR ?_ ?_|exact ay _|exact bL _|exact an _|rfl|exact aS _ _|refine aA ?_|exact bM _|refine aV ?_)|refine bS rfl ?_ ?_|exact aT hN _ rfl rfl rfl|exact aU hN _ rfl rfl rfl|exact aB hN _ rfl rfl rfl (Or.inr rfl)|(refine aP hN _ rfl rfl (by first|exact Or.inr rfl|exact Or.inl rfl) ?_;first|exact aM _|exact aN _)|refine aC hN rfl ?_|refine aD hN rfl rfl ?_|exact az hN _ rfl rfl|exact aE hN rfl rfl rfl rfl|(with_reducible first|refine aR ?_|refine bA ?_|refine bC ?_|refine bD ?_|refine bB ?_|refine bz ?_)));(try (any_goals (first|(with_reducible rfl)|(refine ah ?_;omega)))))
     exact hyes hodd (hrb.1 hbt)
   · have hbf : gb mm (gi R k).toNat = false:=by assumption
     (refine ⟨k + 1,⟨?_,?_⟩,bU hX hN [] ?_ ?_⟩;(try any_goals dsimp only);(repeat' (first|(with_reducible first|exact bN _|exact bO|exact bP|refine bQ ?_ ?_|refine bR ?_ ?_|exact ay _|exact bL _|exact an _|rfl|exact aS _ _|refine aA ?_|exact bM _|refine aV ?_)|refine bS rfl ?_ ?_|exact aT hN _ rfl rfl rfl|exact aU hN _ rfl rfl rfl|exact aB hN _ rfl rfl rfl (Or.inr rfl)|(refine aP hN _ rfl rfl (by first|exact Or.inr rfl|exact Or.inl rfl) ?_;first|exact aM _|exact aN _)|refine aC hN rfl ?_|refine aD hN rfl rfl ?_|exact az hN _ rfl rfl|exact aE hN rfl rfl rfl rfl|(with_reducible first|refine aR ?_|refine bA ?_|refine bC ?_|refine bD ?_|refine bB ?_|refine bz ?_)));(try (any_goals (first|(with_reducible rfl)|(refine ah ?_;omega)))))
     exact hno2 fun hx=>by rw [hrb.2 hx] at hbf;cases hbf
 · (repeat' (first|(with_reducible first|(refine hK _ _ ?_;clear hK K)|(refine aa _ ?_;clear aa K)|(refine ab _ _ _ ?_;clear ab K)|(refine ac _ _ ?_;clear ac K)|refine bh ?_|refine bX ?_|refine a9 ?_|refine aq ?_|refine ap ?_|refine bY ?_|refine aG ?_|refine ba ?_|refine bZ ?_|refine bc ?_|refine bd rfl ?_|refine bi ?_|refine be ?_|refine b7 ?_|refine bf ?_|refine aF ?_|refine n_k ?_|refine bg ?_|(refine ae ?_;clear ae X af Y)|(refine af ?_;clear ae X af Y))|(with_reducible refine bo ?_;first|refine bm rfl ?_|refine bn rfl ?_)|(with_reducible refine aQ ?_;first|refine au rfl rfl rfl rfl ?_|refine aI rfl rfl rfl ?_|refine bt rfl rfl rfl rfl ?_)|(with_reducible refine ce ?_;first|refine bE rfl rfl rfl rfl ?_|refine b9 rfl rfl rfl ?_|refine cn rfl rfl rfl rfl ?_|refine co hN (by apply Exists.intro;apply And.intro;(repeat' (first|apply FtI.nil|apply FI.nil|apply FI.cons|apply FtI.cons));kernel_rfl) ?_)|((first|(with_reducible first|refine bp rfl rfl fun K hK=>?_|refine ck rfl rfl fun K ab=>?_|refine br rfl rfl fun K aa=>?_|refine cm rfl rfl fun K ac=>?_|refine aH fun X Y ae af=>?_|refine aJ ?_));simp (disch:=first|decide|omega|(simp only [List.length_cons,List.length_nil];omega)) only [go_sem,beq_self_eq_true,↓aj,↓ak hN,am hN,reduceIte,reduceCtorEq,Nat.reduceAdd,Nat.reduceLT,Nat.reduceLeDiff,Nat.reduceEqDiff,Nat.reduceSub])|(with_reducible refine And.intro (fun h=>?_) (fun h=>?_) <;> try (exfalso;omega))|(with_reducible refine bj aK hN rfl ?_ ?_;kernel_rfl)|(with_reducible refine bF aK hN rfl ?_ ?_ ?_ ?_;(kernel_rfl);(kernel_rfl);(kernel_rfl))|(with_reducible refine And.intro ?_ ?_)|(refine ah ?_;omega)|(exact bu hN (by decide))))
   (refine cV hN (i:=2) (.inr rfl) (by first|rfl|(simp (disch:=first|decide|omega|(simp only [List.length_cons,List.length_nil];omega)) only [ci,cu,cw,cx,go_sem,beq_self_eq_true,↓aj,↓ak hN,am hN,reduceIte,reduceCtorEq,Nat.reduceAdd,Nat.reduceLT,Nat.reduceLeDiff,Nat.reduceEqDiff,Nat.reduceSub];rfl)) rfl ?_ rfl)
   rw [show k = R.length by omega]
theorem iF {g : Pa} {W P : List Int} (h : il g W P) (i : Int) : ec g (da g P i):=by
 refine ⟨fY _ _ _,fun v hv=>?_⟩
 rw [fY] at hv
 obtain ⟨_,h2,h3⟩:=h.2 v hv
 rw [fc hv]
 split
 · by_cases e : gi g.ar.own v = gi W v
   · exact .inr (h2 e)
   · exact .inl (h3 e)
 · exact .inl rfl
theorem oa {g : Pa} (hg : PaOk g) {ps : List Int} (h : ec g ps) : ∀ v,v < ps.length → gi ps v < g.prio.length:=fun v hv=>by
 have:=h.1
 rcases h.2 v hv with e|e
 · omega
 · exact (mT hg (by omega) e).2
theorem rE {g : Pa} {i : Int} {R ps bl : List Int} (h : qj g i R ps) (hn : bl = [] ↔ kM g i R ps) : ((((bl.length : Nat) : Int)) == 0) = tf (ik g i R ps):=by
 rcases bl with _|⟨x,xs⟩
 · rw [bV ⟨h,hn.1 rfl⟩];rfl
 · rw [aX fun e : ik g i R ps=>by cases hn.2 e.2]
   simp only [List.length_cons,beq_eq_false_iff_ne]
   omega
theorem rF (g : Pa) (hg : PaOk g) (i : Int) (R ps : List Int) (hR : db R g.prio.length) (hp : ec g ps) : aL Try.prog 81 [paA g,.c (.int .i64 i),.c (.I R),.c (.I ps)] [] (fun _=>.c (.bool (tf (ik g i R ps)))):=by
 have c1:=n7 g hg i R ps hR hp.1 (oa hg hp)
 have c2:=n9 g hg i R ps hR hp
 have hbl : (eX g i R ps R.length).length ≤ R.length:=j7 _ _ _
 have hn:=n8 (g:=g) (i:=i) (R:=R) (ps:=ps)
 generalize eX g i R ps R.length = bl at *
 (refine bK aK Try.func81 rfl rfl (by kernel_rfl) fun hp0 ν hX hN=>?_;simp only [cG,Nat.reduceAdd])
 (repeat' (first|(with_reducible first|(refine hK _ _ ?_;clear hK K)|(refine aa _ ?_;clear aa K)|refine bh ?_|refine bX ?_|refine a9 ?_|refine aq ?_|refine ap ?_|refine bY ?_|refine aG ?_|refine ba ?_|refine bZ ?_|refine bc ?_|refine bd rfl ?_|refine bi ?_|refine be ?_|refine b7 ?_|refine bf ?_|refine aF ?_|refine n_k ?_|refine bg ?_|(refine ae ?_;clear ae X af Y)|(refine af ?_;clear ae X af Y))|(with_reducible refine bo ?_;first|refine bm rfl ?_|refine bn rfl ?_)|(with_reducible refine aQ ?_;first|refine au rfl rfl rfl rfl ?_|refine aI rfl rfl rfl ?_|refine bt rfl rfl rfl rfl ?_)|((first|(with_reducible first|refine bp rfl rfl fun K hK=>?_|refine br rfl rfl fun K aa=>?_|refine aH fun X Y ae af=>?_|refine aJ ?_)|(with_reducible refine aQ ?_;refine aW rfl rfl fun X Y ae af=>?_));simp (disch:=first|decide|omega|(simp only [List.length_cons,List.length_nil];omega)) only [go_sem,beq_self_eq_true,↓aj,↓ak hN,am hN,reduceIte,reduceCtorEq,Nat.reduceAdd,Nat.reduceLT,Nat.reduceLeDiff,Nat.reduceEqDiff,Nat.reduceSub])|(with_reducible refine And.intro (fun h=>?_) (fun h=>?_) <;> try (exfalso;omega))|(with_reducible refine bj aK hN rfl ?_ ?_;kernel_rfl)|(refine aO c1 ?_ rfl (fun _=>rfl) ?_)|(refine aO (c2) ?_ rfl (fun _=>rfl) ?_;focus ((repeat' (first|(with_reducible first|exact ax|refine ao ?_ ?_|exact cg _|refine bv ?_|exact a8 _|exact bJ _ _|refine bI ?_|exact aY _)|exact bw hN rfl rfl|(refine bG hN rfl ?_;first|exact aM _|exact aN _)|exact aZ rfl rfl rfl));done))|(with_reducible first|exact ax|refine ao ?_ ?_|exact cg _|refine bv ?_|exact a8 _|exact bJ _ _|refine bI ?_|exact aY _)|exact bw hN rfl rfl|(refine bG hN rfl ?_;first|exact aM _|exact aN _)|exact aZ rfl rfl rfl|(simp only [bW,List.map_nil])|(with_reducible refine b8 ?_)|(with_reducible refine And.intro ?_ ?_)|(refine ah ?_;omega)|(exact bu hN (by decide))))
 all_goals (refine cC (.inr rfl) (by first|rfl|(simp (disch:=first|decide|omega|(simp only [List.length_cons,List.length_nil];omega)) only [ci,cu,cw,cx,go_sem,beq_self_eq_true,↓aj,↓ak hN,am hN,reduceIte,reduceCtorEq,Nat.reduceAdd,Nat.reduceLT,Nat.reduceLeDiff,Nat.reduceEqDiff,Nat.reduceSub];rfl)) ?_)
 all_goals refine bz ?_
 · exact rE (by assumption) hn
 · exact (aX fun e=>absurd e.1 (by assumption)).symm
theorem jL (g : Pa) (W P : List Int) : aL Try.prog 20 [paA g,.agg [.c (.I W),.c (.I P)]] [] (fun _=>.c (.bool (tf (AOk g W P)))):=by
 (refine bK aK Try.func20 rfl rfl (by kernel_rfl) fun hp0 ν hX hN=>?_;simp only [cG,Nat.reduceAdd])
 (repeat' (first|(with_reducible first|(refine hK _ _ ?_;clear hK K)|(refine aa _ ?_;clear aa K)|(refine ab _ _ _ ?_;clear ab K)|(refine ac _ _ ?_;clear ac K)|refine bh ?_|refine bX ?_|refine a9 ?_|refine aq ?_|refine ap ?_|refine bY ?_|refine aG ?_|refine ba ?_|refine bZ ?_|refine bc ?_|refine bd rfl ?_|refine bi ?_|refine be ?_|refine b7 ?_|refine bf ?_|refine aF ?_|refine n_k ?_|refine bg ?_|(refine ae ?_;clear ae X af Y)|(refine af ?_;clear ae X af Y))|(with_reducible refine bo ?_;first|refine bm rfl ?_|refine bn rfl ?_)|(with_reducible refine aQ ?_;first|refine au rfl rfl rfl rfl ?_|refine aI rfl rfl rfl ?_|refine bt rfl rfl rfl rfl ?_)|(with_reducible refine ce ?_;first|refine bE rfl rfl rfl rfl ?_|refine b9 rfl rfl rfl ?_|refine cn rfl rfl rfl rfl ?_|refine co hN (by apply Exists.intro;apply And.intro;(repeat' (first|apply FtI.nil|apply FI.nil|apply FI.cons|apply FtI.cons));kernel_rfl) ?_)|((first|(with_reducible first|refine bp rfl rfl fun K hK=>?_|refine ck rfl rfl fun K ab=>?_|refine br rfl rfl fun K aa=>?_|refine cm rfl rfl fun K ac=>?_|refine aH fun X Y ae af=>?_|refine aJ ?_)|(with_reducible refine aQ ?_;refine aW rfl rfl fun X Y ae af=>?_)|(with_reducible refine ce ?_;refine cc rfl rfl fun X Y ae af=>?_));simp (disch:=first|decide|omega|(simp only [List.length_cons,List.length_nil];omega)) only [go_sem,beq_self_eq_true,↓aj,↓ak hN,am hN,reduceIte,reduceCtorEq,Nat.reduceAdd,Nat.reduceLT,Nat.reduceLeDiff,Nat.reduceEqDiff,Nat.reduceSub])|(with_reducible refine And.intro (fun h=>?_) (fun h=>?_) <;> try (exfalso;omega))|(with_reducible refine bj aK hN rfl ?_ ?_;kernel_rfl)|(with_reducible refine bF aK hN rfl ?_ ?_ ?_ ?_;(kernel_rfl);(kernel_rfl);(kernel_rfl))|(refine aO (gK g) ?_ rfl (fun _=>rfl) ?_)|(refine aO (jK g (by assumption) W P) ?_ rfl (fun _=>rfl) ?_;focus ((repeat' (first|(with_reducible first|exact ax|refine ao ?_ ?_|exact cg _|refine bv ?_|exact a8 _|exact bJ _ _|refine bI ?_|exact aY _)|exact bw hN rfl rfl|(refine bG hN rfl ?_;first|exact aM _|exact aN _)|exact aZ rfl rfl rfl));done))|(with_reducible first|exact ax|refine ao ?_ ?_|exact cg _|refine bv ?_|exact a8 _|exact bJ _ _|refine bI ?_|exact aY _)|exact bw hN rfl rfl|(refine bG hN rfl ?_;first|exact aM _|exact aN _)|exact aZ rfl rfl rfl|(simp only [bW,List.map_nil])|(with_reducible refine b8 ?_)|(with_reducible refine And.intro ?_ ?_)|(refine ah ?_;omega)|(exact bu hN (by decide))))
 · (refine cC (.inr rfl) (by first|rfl|(simp (disch:=first|decide|omega|(simp only [List.length_cons,List.length_nil];omega)) only [ci,cu,cw,cx,go_sem,beq_self_eq_true,↓aj,↓ak hN,am hN,reduceIte,reduceCtorEq,Nat.reduceAdd,Nat.reduceLT,Nat.reduceLeDiff,Nat.reduceEqDiff,Nat.reduceSub];rfl)) ?_)
   exact congrArg C.bool (aX fun e=>absurd e.1.1 (by assumption)).symm
 · (refine cC (.inr rfl) (by first|rfl|(simp (disch:=first|decide|omega|(simp only [List.length_cons,List.length_nil];omega)) only [ci,cu,cw,cx,go_sem,beq_self_eq_true,↓aj,↓ak hN,am hN,reduceIte,reduceCtorEq,Nat.reduceAdd,Nat.reduceLT,Nat.reduceLeDiff,Nat.reduceEqDiff,Nat.reduceSub];rfl)) ?_)
   exact congrArg C.bool (aX fun e=>absurd e.1.2 (by assumption)).symm
 have hg : PaOk g:=by assumption
 have hf : il g W P:=by assumption
 have hl:=hg.len
 have hle:=hg.ar.le
 have hlw:=hf.1.1
 have hlp:=hf.1.2
 (refine cj (fun (k : Nat)=>(tmL [(5,.c (.int .i64 k)),(2,.ad (ν 0) 0),(3,.ad (ν 1) 0)],hpL hp0 ν [.box [.c (.I g.ar.own),.c (.R g.ar.nxt),.c (.I g.prio)],.box [.c (.I W),.c (.I P)]])) (fun (k : Nat)=>k ≤ 2 ∧ ∀ i : Nat,i < k → ik g i (atL W i) (da g P i)) (fun (k : Nat)=>2 - k) ⟨0,?_,bU hX hN [] ?_ ?_⟩ ?_;(repeat' (first|(with_reducible first|exact bN _|exact bO|exact bP|refine bQ ?_ ?_|refine bR ?_ ?_|exact ay _|exact bL _|exact an _|rfl|exact aS _ _|refine aA ?_|exact bM _|refine aV ?_)|refine bS rfl ?_ ?_|exact aT hN _ rfl rfl rfl|exact aU hN _ rfl rfl rfl|exact aB hN _ rfl rfl rfl (Or.inr rfl)|(refine aP hN _ rfl rfl (by first|exact Or.inr rfl|exact Or.inl rfl) ?_;first|exact aM _|exact aN _)|refine aC hN rfl ?_|refine aD hN rfl rfl ?_|exact az hN _ rfl rfl|exact aE hN rfl rfl rfl rfl|(with_reducible first|refine aR ?_|refine bA ?_|refine bC ?_|refine bD ?_|refine bB ?_|refine bz ?_)));(try (any_goals (first|(with_reducible rfl)|(refine ah ?_;omega)))))
 · exact ⟨Nat.zero_le _,fun i h=>absurd h (Nat.not_lt_zero _)⟩
 rintro k ⟨hk,ho⟩
 have hs:=jq W k
 rw [hlw] at hs
 have c1:=n6 W P k (by omega)
 have c2:=lV g hg W P hlp k
 have c3:=rF g hg k (atL W k) (da g P k) hs (iF hf k)
 by_cases hk2 : k < 2
 · (repeat' (first|(with_reducible first|(refine hK _ _ ?_;clear hK K)|(refine aa _ ?_;clear aa K)|(refine ab _ _ _ ?_;clear ab K)|(refine ac _ _ ?_;clear ac K)|refine bh ?_|refine bX ?_|refine a9 ?_|refine aq ?_|refine ap ?_|refine bY ?_|refine aG ?_|refine ba ?_|refine bZ ?_|refine bc ?_|refine bd rfl ?_|refine bi ?_|refine be ?_|refine b7 ?_|refine bf ?_|refine aF ?_|refine n_k ?_|refine bg ?_|(refine ae ?_;clear ae X af Y)|(refine af ?_;clear ae X af Y))|(with_reducible refine bo ?_;first|refine bm rfl ?_|refine bn rfl ?_)|(with_reducible refine aQ ?_;first|refine au rfl rfl rfl rfl ?_|refine aI rfl rfl rfl ?_|refine bt rfl rfl rfl rfl ?_)|(with_reducible refine ce ?_;first|refine bE rfl rfl rfl rfl ?_|refine b9 rfl rfl rfl ?_|refine cn rfl rfl rfl rfl ?_|refine co hN (by apply Exists.intro;apply And.intro;(repeat' (first|apply FtI.nil|apply FI.nil|apply FI.cons|apply FtI.cons));kernel_rfl) ?_)|((first|(with_reducible first|refine bp rfl rfl fun K hK=>?_|refine ck rfl rfl fun K ab=>?_|refine br rfl rfl fun K aa=>?_|refine cm rfl rfl fun K ac=>?_|refine aH fun X Y ae af=>?_|refine aJ ?_)|(with_reducible refine aQ ?_;refine aW rfl rfl fun X Y ae af=>?_)|(with_reducible refine ce ?_;refine cc rfl rfl fun X Y ae af=>?_));simp (disch:=first|decide|omega|(simp only [List.length_cons,List.length_nil];omega)) only [go_sem,beq_self_eq_true,↓aj,↓ak hN,am hN,reduceIte,reduceCtorEq,Nat.reduceAdd,Nat.reduceLT,Nat.reduceLeDiff,Nat.reduceEqDiff,Nat.reduceSub])|(with_reducible refine And.intro (fun h=>?_) (fun h=>?_) <;> try (exfalso;omega))|(with_reducible refine bj aK hN rfl ?_ ?_;kernel_rfl)|(with_reducible refine bF aK hN rfl ?_ ?_ ?_ ?_;(kernel_rfl);(kernel_rfl);(kernel_rfl))|((first|refine aO (c1) ?_ rfl (fun _=>rfl) ?_|refine aO (c2) ?_ rfl (fun _=>rfl) ?_|refine aO (c3) ?_ rfl (fun _=>rfl) ?_);focus ((repeat' (first|(with_reducible first|exact ax|refine ao ?_ ?_|exact cg _|refine bv ?_|exact a8 _|exact bJ _ _|refine bI ?_|exact aY _)|exact bw hN rfl rfl|(refine bG hN rfl ?_;first|exact aM _|exact aN _)|exact aZ rfl rfl rfl));done))|(with_reducible first|exact ax|refine ao ?_ ?_|exact cg _|refine bv ?_|exact a8 _|exact bJ _ _|refine bI ?_|exact aY _)|exact bw hN rfl rfl|(refine bG hN rfl ?_;first|exact aM _|exact aN _)|exact aZ rfl rfl rfl|(simp only [bW,List.map_nil])|(with_reducible refine b8 ?_)|(with_reducible refine And.intro ?_ ?_)|(refine ah ?_;omega)|(exact bu hN (by decide))))
   · have hno : ¬ ik g (k : Int) (atL W k) (da g P k):=by assumption
     (refine cC (.inr rfl) (by first|rfl|(simp (disch:=first|decide|omega|(simp only [List.length_cons,List.length_nil];omega)) only [ci,cu,cw,cx,go_sem,beq_self_eq_true,↓aj,↓ak hN,am hN,reduceIte,reduceCtorEq,Nat.reduceAdd,Nat.reduceLT,Nat.reduceLeDiff,Nat.reduceEqDiff,Nat.reduceSub];rfl)) ?_)
     refine congrArg C.bool (aX fun e=>hno ?_).symm
     have hk01 : k = 0 ∨ k = 1:=by omega
     rcases hk01 with e1|e1
     · subst e1;exact e.2.1
     · subst e1;exact e.2.2
   · (refine ⟨k + 1,⟨?_,?_⟩,bU hX hN [] ?_ ?_⟩;(try any_goals dsimp only);(repeat' (first|(with_reducible first|exact bN _|exact bO|exact bP|refine bQ ?_ ?_|refine bR ?_ ?_|exact ay _|exact bL _|exact an _|rfl|exact aS _ _|refine aA ?_|exact bM _|refine aV ?_)|refine bS rfl ?_ ?_|exact aT hN _ rfl rfl rfl|exact aU hN _ rfl rfl rfl|exact aB hN _ rfl rfl rfl (Or.inr rfl)|(refine aP hN _ rfl rfl (by first|exact Or.inr rfl|exact Or.inl rfl) ?_;first|exact aM _|exact aN _)|refine aC hN rfl ?_|refine aD hN rfl rfl ?_|exact az hN _ rfl rfl|exact aE hN rfl rfl rfl rfl|(with_reducible first|refine aR ?_|refine bA ?_|refine bC ?_|refine bD ?_|refine bB ?_|refine bz ?_)));(try (any_goals (first|(with_reducible rfl)|(refine ah ?_;omega)))))
     exact ⟨by omega,dm ho (by assumption)⟩
 · (repeat' (first|(with_reducible first|(refine hK _ _ ?_;clear hK K)|(refine aa _ ?_;clear aa K)|(refine ab _ _ _ ?_;clear ab K)|(refine ac _ _ ?_;clear ac K)|refine bh ?_|refine bX ?_|refine a9 ?_|refine aq ?_|refine ap ?_|refine bY ?_|refine aG ?_|refine ba ?_|refine bZ ?_|refine bc ?_|refine bd rfl ?_|refine bi ?_|refine be ?_|refine b7 ?_|refine bf ?_|refine aF ?_|refine n_k ?_|refine bg ?_|(refine ae ?_;clear ae X af Y)|(refine af ?_;clear ae X af Y))|(with_reducible refine bo ?_;first|refine bm rfl ?_|refine bn rfl ?_)|(with_reducible refine aQ ?_;first|refine au rfl rfl rfl rfl ?_|refine aI rfl rfl rfl ?_|refine bt rfl rfl rfl rfl ?_)|(with_reducible refine ce ?_;first|refine bE rfl rfl rfl rfl ?_|refine b9 rfl rfl rfl ?_|refine cn rfl rfl rfl rfl ?_|refine co hN (by apply Exists.intro;apply And.intro;(repeat' (first|apply FtI.nil|apply FI.nil|apply FI.cons|apply FtI.cons));kernel_rfl) ?_)|((first|(with_reducible first|refine bp rfl rfl fun K hK=>?_|refine ck rfl rfl fun K ab=>?_|refine br rfl rfl fun K aa=>?_|refine cm rfl rfl fun K ac=>?_|refine aH fun X Y ae af=>?_|refine aJ ?_)|(with_reducible refine aQ ?_;refine aW rfl rfl fun X Y ae af=>?_)|(with_reducible refine ce ?_;refine cc rfl rfl fun X Y ae af=>?_));simp (disch:=first|decide|omega|(simp only [List.length_cons,List.length_nil];omega)) only [go_sem,beq_self_eq_true,↓aj,↓ak hN,am hN,reduceIte,reduceCtorEq,Nat.reduceAdd,Nat.reduceLT,Nat.reduceLeDiff,Nat.reduceEqDiff,Nat.reduceSub])|(with_reducible refine And.intro (fun h=>?_) (fun h=>?_) <;> try (exfalso;omega))|(with_reducible refine bj aK hN rfl ?_ ?_;kernel_rfl)|(with_reducible refine bF aK hN rfl ?_ ?_ ?_ ?_;(kernel_rfl);(kernel_rfl);(kernel_rfl))|(with_reducible refine And.intro ?_ ?_)|(refine ah ?_;omega)|(exact bu hN (by decide))))
   (refine cC (.inr rfl) (by first|rfl|(simp (disch:=first|decide|omega|(simp only [List.length_cons,List.length_nil];omega)) only [ci,cu,cw,cx,go_sem,beq_self_eq_true,↓aj,↓ak hN,am hN,reduceIte,reduceCtorEq,Nat.reduceAdd,Nat.reduceLT,Nat.reduceLeDiff,Nat.reduceEqDiff,Nat.reduceSub];rfl)) ?_)
   exact congrArg C.bool (bV ⟨⟨hg,hf⟩,ho 0 (by omega),ho 1 (by omega)⟩).symm
end Go.Proofs.Ytfaefmabjjndeaa
