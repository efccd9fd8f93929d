/-
  Who wins which vertex: the program's and the reference's.
-/
import Derived.Test.YtfaefmabjjndeaaZeE11
import Derived.Test.YtfaefmabjjndeaaZeCe
import Derived.Test.YtfaefmabjjndeaaZeCq
namespace Go.Proofs.Ytfaefmabjjndeaa
set_option linter.unusedVariables false
set_option linter.unusedSimpArgs false
open Go.RowKit
attribute [local irreducible] aL cQ Aw Le
def pgP (g : Pa) : PG.Gm:=cI (dL g) g.prio.length
theorem uD {g : Pa} (hg : PaOk g) : uW g.ar = (dL g).prev:=by
 show di _ (fun u=>cM g.ar.nxt u _) = di _ (fun u=>cM g.ar.nxt u _)
 rw [hg.len]
theorem rg {g : Pa} {v : Nat} (hv : v < g.prio.length) : gi (dL g).pick v < 0:=by
 rw [show gi (dL g).pick v = -1 from cY _ hv];omega
theorem fK {g : Pa} (v u : Nat) : (pgP g).E v u ↔ v < g.prio.length ∧ u < g.prio.length ∧ ∃ t,t < (gr g.ar.nxt v).length ∧ gi (gr g.ar.nxt v) t = (u : Int):=by
 show v < _ ∧ u < _ ∧ edg (dL g) v u = true ∧ _ ↔ _
 constructor
 · rintro ⟨a,b,_,c⟩;exact ⟨a,b,c⟩
 · rintro ⟨a,b,c⟩;exact ⟨a,b,v9 v u (by omega) (by omega),c⟩
theorem gO {g : Pa} (hg : PaOk g) {xs : List Int} (h : kw g.ar xs) : PG.Total (pgP g) fun v=>(v : Int) ∈ xs:=by
 intro v hv
 obtain ⟨k,hk,e⟩:=cX hv
 obtain ⟨i,h1,h2⟩:=h.2 k hk
 have h3:=h.1 k hk
 have hl:=hg.len
 rw [e,Int.toNat_natCast] at h1 h2
 obtain ⟨j,hj,e'⟩:=cX h2
 have h4:=h.1 j hj
 rw [e'] at h4
 have e5 : (((gi (gr g.ar.nxt v) i).toNat : Nat) : Int) = gi (gr g.ar.nxt v) i:=Int.toNat_of_nonneg h4.1
 exact ⟨(gi (gr g.ar.nxt v) i).toNat,(fK _ _).2 ⟨by omega,by omega,i,h1,e5.symm⟩,by show _ ∈ xs;rw [e5];exact h2⟩
def fD (g : Pa) (v : Nat) : Prop:=v < g.prio.length
theorem fW {g : Pa} (hg : PaOk g) : PG.Total (pgP g) (fD g):=by
 intro v hv
 have hl:=hg.len
 have hv' : v < g.prio.length:=hv
 obtain ⟨_,_,h1,h2,h3⟩:=hg.ar.vert v (by omega)
 have h4:=h3 0 (by omega)
 exact ⟨(gi (gr g.ar.nxt v) 0).toNat,(fK _ _).2 ⟨hv',by omega,0,by omega,by omega⟩,show _ < _ by omega⟩
theorem tb {P : PG.Gm} {i : Int} {S S' : Nat → Prop} (h : ∀ v,S v ↔ S' v) (v : Nat) : PG.Won P i S v ↔ PG.Won P i S' v:=by
 have : S = S':=funext fun v=>propext (h v)
 rw [this]
theorem uE {n v : Nat} {p : Nat → Prop} (hp : ∀ v,p v → v < n) : gb (mks n p) v = true ↔ p v:=by
 rcases Nat.lt_or_ge v n with h|h
 · rw [dU _ h];exact gt
 · refine ⟨fun h'=>?_,fun h'=>?_⟩
   · have:=e9 h';rw [cK] at this;omega
   · have:=hp v h';omega
theorem rh {P : PG.Gm} {n : Nat} (hf : PG.Fin P n) {S : Nat → Prop} (hS : ∀ v,S v → v < n) (ht : PG.Total P S) {i : Int} (hi : i = 0 ∨ i = 1) :
  (cO (mks n S).length fun v=>gb (mks n S) v && !gb (mks n (PG.Won P i S)) v) = mks n (PG.Won P (1 - i) S):=by
 rw [cK]
 refine dJ fun v hv=>gl ?_
 rw [dU _ hv,dU _ hv,iY hf hS ht hi,Bool.and_eq_true,Bool.not_eq_true',gt,rM]
 exact Iff.rfl
noncomputable def fX (g : Pa) (xs : List Int) (i : Int) : List Int:=cW (mks g.prio.length (PG.Won (pgP g) i fun v=>(v : Int) ∈ xs)) g.prio.length
noncomputable def bT (g : Pa) : List Int:=tab g.prio.length fun v=>if tf (PG.Won (pgP g) 0 (fD g) v) then 0 else 1
theorem jF {g : Pa} : PG.Fin (pgP g) g.prio.length:=fun v u h=>h.2.1
set_option maxHeartbeats 4000000 in
theorem qd (g : Pa) (hg : PaOk g) (xs : List Int) (hx : kw g.ar xs) : aL Try.prog 151 [paA g,.c (.I xs)] [.arr 2 .yes (.I (fX g xs 0)),.arr 2 .yes (.I (fX g xs 1))] (fun ns=>.tup [.sl (ns.getD 0 0),.sl (ns.getD 1 0)]):=by
 have hl:=hg.len
 have hle:=hg.ar.le
 have hB : Bnd xs g.ar.own.length:=fun k hk=>by have:=hx.1 k hk;omega
 have hxl:=fe hx.1 (by omega)
 have hS : ∀ v : Nat,(v : Int) ∈ xs → v < g.prio.length:=fun v hv=>by
  obtain ⟨k,hk,e⟩:=cX hv
  have:=hB k hk;omega
 have ht:=gO hg hx
 have hpr:=ra g.ar hg.ar
 rw [uD hg] at hpr
 have hmk:=nO g.ar xs hB hle (by omega)
 rw [← hl] at hmk
 have hP : (fun v=>gb (mks g.prio.length fun v : Nat=>(v : Int) ∈ xs) v = true) = fun v : Nat=>(v : Int) ∈ xs:=funext fun v=>propext (uE hS)
 have hw:=xm (dL g) g.prio.length (iV hg) (fun v hv=>rg hv) _ (mks g.prio.length fun v : Nat=>(v : Int) ∈ xs) (cK _ _) (Nat.lt_succ_self _) (by rw [hP];exact ht)
 have h01:=qc (dL g).prio (mks g.prio.length fun v : Nat=>(v : Int) ∈ xs) g.prio.length
 rw [hP] at hw
 generalize ld (dL g).prio (mks g.prio.length fun v : Nat=>(v : Int) ∈ xs) g.prio.length = who at hw h01
 have hwo:=hY (mks g.prio.length fun v : Nat=>(v : Int) ∈ xs) (mks g.prio.length (PG.Won (pgP g) who fun v=>(v : Int) ∈ xs)) (by rw [cK,cK]) (by rw [cK];omega)
 rw [rh jF hS ht h01] at hwo
 change aL _ _ _ _ (fun _=>.tup [.c (.B (mks g.prio.length (PG.Won (pgP g) who fun v=>(v : Int) ∈ xs))),_]) at hw
 clear hP
 generalize hmm : mks g.prio.length (fun v : Nat=>(v : Int) ∈ xs) = mm at *
 have hw0 : fX g xs 0 = cW (mks g.prio.length (PG.Won (pgP g) 0 fun v=>(v : Int) ∈ xs)) (mks g.prio.length (PG.Won (pgP g) 0 fun v=>(v : Int) ∈ xs)).length:=by rw [cK];rfl
 have hw1 : fX g xs 1 = cW (mks g.prio.length (PG.Won (pgP g) 1 fun v=>(v : Int) ∈ xs)) (mks g.prio.length (PG.Won (pgP g) 1 fun v=>(v : Int) ∈ xs)).length:=by rw [cK];rfl
 have l0 : (mks g.prio.length (PG.Won (pgP g) 0 fun v=>(v : Int) ∈ xs)).length = g.prio.length:=cK _ _
 have l1 : (mks g.prio.length (PG.Won (pgP g) 1 fun v=>(v : Int) ∈ xs)).length = g.prio.length:=cK _ _
 rcases h01 with rfl|rfl
 · rw [show (1 : Int) - 0 = 1 from rfl] at hwo
   generalize mks g.prio.length (PG.Won (pgP g) 0 fun v=>(v : Int) ∈ xs) = m0 at *
   generalize mks g.prio.length (PG.Won (pgP g) 1 fun v=>(v : Int) ∈ xs) = m1 at *
   (refine bK aK Try.func151 rfl rfl (by kernel_rfl) fun hp0 ν hX hN=>?_;simp only [cG,Nat.reduceAdd])
   (repeat' (first|(with_reducible refine jm 3 ?_)|(with_reducible first|(refine hK _ _ ?_;clear hK K)|(refine aa _ ?_;clear aa K)|(refine ab _ _ _ ?_;clear ab K)|(refine ac _ _ ?_;clear ac K)|refine bh ?_|refine bX ?_|refine a9 ?_|refine aq ?_|refine ap ?_|refine bY ?_|refine aG ?_|refine ba ?_|refine bZ ?_|refine bc ?_|refine bd rfl ?_|refine bi ?_|refine be ?_|refine b7 ?_|refine bf ?_|refine aF ?_|refine n_k ?_|refine bg ?_|(refine ae ?_;clear ae X af Y)|(refine af ?_;clear ae X af Y))|(with_reducible refine bo ?_;first|refine bm rfl ?_|refine bn rfl ?_)|(with_reducible refine aQ ?_;first|refine au rfl rfl rfl rfl ?_|refine aI rfl rfl rfl ?_|refine bt rfl rfl rfl rfl ?_)|(with_reducible refine ce ?_;first|refine bE rfl rfl rfl rfl ?_|refine b9 rfl rfl rfl ?_|refine cn rfl rfl rfl rfl ?_|refine co hN (by apply Exists.intro;apply And.intro;(repeat' (first|apply FtI.nil|apply FI.nil|apply FI.cons|apply FtI.cons));kernel_rfl) ?_)|((first|(with_reducible first|refine bp rfl rfl fun K hK=>?_|refine ck rfl rfl fun K ab=>?_|refine br rfl rfl fun K aa=>?_|refine cm rfl rfl fun K ac=>?_|refine aH fun X Y ae af=>?_|refine aJ ?_));simp (disch:=first|decide|omega|(simp only [List.length_cons,List.length_nil];omega)) only [go_sem,beq_self_eq_true,↓aj,↓ak hN,am hN,reduceIte,reduceCtorEq,Nat.reduceAdd,Nat.reduceLT,Nat.reduceLeDiff,Nat.reduceEqDiff,Nat.reduceSub])|(with_reducible refine And.intro (fun h=>?_) (fun h=>?_) <;> try (exfalso;omega))|(with_reducible refine bj aK hN rfl ?_ ?_;kernel_rfl)|(with_reducible refine bF aK hN rfl ?_ ?_ ?_ ?_;(kernel_rfl);(kernel_rfl);(kernel_rfl))|(refine dQ (hpr) ?_ rfl rfl ?_)|(refine aO hmk ?_ rfl (fun _=>rfl) ?_)|(with_reducible first|exact ax|refine ao ?_ ?_|exact cg _|refine bv ?_|exact a8 _|exact bJ _ _|refine bI ?_|exact aY _)|exact bw hN rfl rfl|(refine bG hN rfl ?_;first|exact aM _|exact aN _)|exact aZ rfl rfl rfl|(simp only [bW,List.map_nil])|(with_reducible refine b8 ?_)|(with_reducible refine And.intro ?_ ?_)|(refine ah ?_;omega)|(exact bu hN (by decide))))
   (refine uy (bU (L':=[.dead,.dead,.dead]) (l:=[(6,soA (dL g)),(7,.c (.B mm))]) hX hN [] ?_ ?_) ?_;(repeat' (first|(with_reducible first|exact bN _|exact bO|exact bP|refine bQ ?_ ?_|refine bR ?_ ?_|exact ay _|exact bL _|exact an _|rfl|exact aS _ _|refine aA ?_|exact bM _|refine aV ?_)|refine bS rfl ?_ ?_|exact aT hN _ rfl rfl rfl|exact aU hN _ rfl rfl rfl|exact aB hN _ rfl rfl rfl (Or.inr rfl)|(refine aP hN _ rfl rfl (by first|exact Or.inr rfl|exact Or.inl rfl) ?_;first|exact aM _|exact aN _)|refine aC hN rfl ?_|refine aD hN rfl rfl ?_|exact az hN _ rfl rfl|exact aE hN rfl rfl rfl rfl|(with_reducible first|refine aR ?_|refine bA ?_|refine bC ?_|refine bD ?_|refine bB ?_|refine bz ?_)));(try (any_goals (first|(with_reducible rfl)|(refine ah ?_;omega)))))
   (repeat' (first|(with_reducible first|(refine hK _ _ ?_;clear hK K)|(refine aa _ ?_;clear aa K)|(refine ab _ _ _ ?_;clear ab K)|(refine ac _ _ ?_;clear ac K)|refine bh ?_|refine bX ?_|refine a9 ?_|refine aq ?_|refine ap ?_|refine bY ?_|refine aG ?_|refine ba ?_|refine bZ ?_|refine bc ?_|refine bd rfl ?_|refine bi ?_|refine be ?_|refine b7 ?_|refine bf ?_|refine aF ?_|refine n_k ?_|refine bg ?_|(refine ae ?_;clear ae X af Y)|(refine af ?_;clear ae X af Y))|(with_reducible refine bo ?_;first|refine bm rfl ?_|refine bn rfl ?_)|(with_reducible refine aQ ?_;first|refine au rfl rfl rfl rfl ?_|refine aI rfl rfl rfl ?_|refine bt rfl rfl rfl rfl ?_)|(with_reducible refine ce ?_;first|refine bE rfl rfl rfl rfl ?_|refine b9 rfl rfl rfl ?_|refine cn rfl rfl rfl rfl ?_|refine co hN (by apply Exists.intro;apply And.intro;(repeat' (first|apply FtI.nil|apply FI.nil|apply FI.cons|apply FtI.cons));kernel_rfl) ?_)|((first|(with_reducible first|refine bp rfl rfl fun K hK=>?_|refine ck rfl rfl fun K ab=>?_|refine br rfl rfl fun K aa=>?_|refine cm rfl rfl fun K ac=>?_|refine aH fun X Y ae af=>?_|refine aJ ?_));simp (disch:=first|decide|omega|(simp only [List.length_cons,List.length_nil];omega)) only [go_sem,beq_self_eq_true,↓aj,↓ak hN,am hN,reduceIte,reduceCtorEq,Nat.reduceAdd,Nat.reduceLT,Nat.reduceLeDiff,Nat.reduceEqDiff,Nat.reduceSub])|(with_reducible refine And.intro (fun h=>?_) (fun h=>?_) <;> try (exfalso;omega))|(with_reducible refine bj aK hN rfl ?_ ?_;kernel_rfl)|(with_reducible refine bF aK hN rfl ?_ ?_ ?_ ?_;(kernel_rfl);(kernel_rfl);(kernel_rfl))|(refine dQ (hw) ?_ rfl rfl ?_)|(refine aO hwo ?_ rfl (fun _=>rfl) ?_)|(refine aO (gL ?_ ?_) ?_ rfl (fun _=>rfl) ?_)|(with_reducible first|exact ax|refine ao ?_ ?_|exact cg _|refine bv ?_|exact a8 _|exact bJ _ _|refine bI ?_|exact aY _)|exact bw hN rfl rfl|(refine bG hN rfl ?_;first|exact aM _|exact aN _)|exact aZ rfl rfl rfl|(simp only [bW,List.map_nil])|(with_reducible refine b8 ?_)|(with_reducible refine And.intro ?_ ?_)|(refine ah ?_;omega)|(exact bu hN (by decide))))
   all_goals (try (refine ah ?_;omega))
   (refine d8 hN [3,5] (by decide) (.inr rfl) (by first|exact cL rfl rfl|exact cF hN rfl rfl rfl rfl|exact cy hN rfl rfl rfl rfl rfl|(simp (disch:=first|decide|omega|(simp only [List.length_cons,List.length_nil];omega)) only [ci,cu,cw,cx,go_sem,beq_self_eq_true,↓aj,↓ak hN,am hN,reduceIte,reduceCtorEq,Nat.reduceAdd,Nat.reduceLT,Nat.reduceLeDiff,Nat.reduceEqDiff,Nat.reduceSub];rfl)|rfl) ?_ fun νs hνs=>?_;(repeat' (first|exact Gone.nil|(refine Gone.cons rfl rfl ?_ ?_)|(with_reducible refine dA ?_)|(with_reducible refine dz ?_)|(with_reducible refine SVs.cons ?_ ?_)|(with_reducible exact SVs.nil)|(simp only [List.drop,List.take])|(simp (disch:=first|decide|omega) only [↓aj,reduceIte,reduceCtorEq,Nat.reduceEqDiff])|(with_reducible exact fw _)|(with_reducible exact dw _)|(exact dx rfl rfl rfl)|(exact dy 0 (by simp) rfl rfl)|(exact dy 1 (by simp) rfl rfl)|(refine d7 hN rfl (dB hN (by decide)) ?_)|(with_reducible refine d6 ?_)|(with_reducible rfl)|(with_reducible refine bA ?_)|(with_reducible refine bC ?_)|(with_reducible refine bD ?_)|(with_reducible refine bB ?_)|(with_reducible refine bz ?_)|(refine ah ?_;omega))))
   · exact hw0.symm
   · exact hw1.symm
 · rw [show (1 : Int) - 1 = 0 from rfl] at hwo
   generalize mks g.prio.length (PG.Won (pgP g) 0 fun v=>(v : Int) ∈ xs) = m0 at *
   generalize mks g.prio.length (PG.Won (pgP g) 1 fun v=>(v : Int) ∈ xs) = m1 at *
   (refine bK aK Try.func151 rfl rfl (by kernel_rfl) fun hp0 ν hX hN=>?_;simp only [cG,Nat.reduceAdd])
   (repeat' (first|(with_reducible refine jm 3 ?_)|(with_reducible first|(refine hK _ _ ?_;clear hK K)|(refine aa _ ?_;clear aa K)|(refine ab _ _ _ ?_;clear ab K)|(refine ac _ _ ?_;clear ac K)|refine bh ?_|refine bX ?_|refine a9 ?_|refine aq ?_|refine ap ?_|refine bY ?_|refine aG ?_|refine ba ?_|refine bZ ?_|refine bc ?_|refine bd rfl ?_|refine bi ?_|refine be ?_|refine b7 ?_|refine bf ?_|refine aF ?_|refine n_k ?_|refine bg ?_|(refine ae ?_;clear ae X af Y)|(refine af ?_;clear ae X af Y))|(with_reducible refine bo ?_;first|refine bm rfl ?_|refine bn rfl ?_)|(with_reducible refine aQ ?_;first|refine au rfl rfl rfl rfl ?_|refine aI rfl rfl rfl ?_|refine bt rfl rfl rfl rfl ?_)|(with_reducible refine ce ?_;first|refine bE rfl rfl rfl rfl ?_|refine b9 rfl rfl rfl ?_|refine cn rfl rfl rfl rfl ?_|refine co hN (by apply Exists.intro;apply And.intro;(repeat' (first|apply FtI.nil|apply FI.nil|apply FI.cons|apply FtI.cons));kernel_rfl) ?_)|((first|(with_reducible first|refine bp rfl rfl fun K hK=>?_|refine ck rfl rfl fun K ab=>?_|refine br rfl rfl fun K aa=>?_|refine cm rfl rfl fun K ac=>?_|refine aH fun X Y ae af=>?_|refine aJ ?_));simp (disch:=first|decide|omega|(simp only [List.length_cons,List.length_nil];omega)) only [go_sem,beq_self_eq_true,↓aj,↓ak hN,am hN,reduceIte,reduceCtorEq,Nat.reduceAdd,Nat.reduceLT,Nat.reduceLeDiff,Nat.reduceEqDiff,Nat.reduceSub])|(with_reducible refine And.intro (fun h=>?_) (fun h=>?_) <;> try (exfalso;omega))|(with_reducible refine bj aK hN rfl ?_ ?_;kernel_rfl)|(with_reducible refine bF aK hN rfl ?_ ?_ ?_ ?_;(kernel_rfl);(kernel_rfl);(kernel_rfl))|(refine dQ (hpr) ?_ rfl rfl ?_)|(refine aO hmk ?_ rfl (fun _=>rfl) ?_)|(with_reducible first|exact ax|refine ao ?_ ?_|exact cg _|refine bv ?_|exact a8 _|exact bJ _ _|refine bI ?_|exact aY _)|exact bw hN rfl rfl|(refine bG hN rfl ?_;first|exact aM _|exact aN _)|exact aZ rfl rfl rfl|(simp only [bW,List.map_nil])|(with_reducible refine b8 ?_)|(with_reducible refine And.intro ?_ ?_)|(refine ah ?_;omega)|(exact bu hN (by decide))))
   (refine uy (bU (L':=[.dead,.dead,.dead]) (l:=[(6,soA (dL g)),(7,.c (.B mm))]) hX hN [] ?_ ?_) ?_;(repeat' (first|(with_reducible first|exact bN _|exact bO|exact bP|refine bQ ?_ ?_|refine bR ?_ ?_|exact ay _|exact bL _|exact an _|rfl|exact aS _ _|refine aA ?_|exact bM _|refine aV ?_)|refine bS rfl ?_ ?_|exact aT hN _ rfl rfl rfl|exact aU hN _ rfl rfl rfl|exact aB hN _ rfl rfl rfl (Or.inr rfl)|(refine aP hN _ rfl rfl (by first|exact Or.inr rfl|exact Or.inl rfl) ?_;first|exact aM _|exact aN _)|refine aC hN rfl ?_|refine aD hN rfl rfl ?_|exact az hN _ rfl rfl|exact aE hN rfl rfl rfl rfl|(with_reducible first|refine aR ?_|refine bA ?_|refine bC ?_|refine bD ?_|refine bB ?_|refine bz ?_)));(try (any_goals (first|(with_reducible rfl)|(refine ah ?_;omega)))))
   (repeat' (first|(with_reducible first|(refine hK _ _ ?_;clear hK K)|(refine aa _ ?_;clear aa K)|(refine ab _ _ _ ?_;clear ab K)|(refine ac _ _ ?_;clear ac K)|refine bh ?_|refine bX ?_|refine a9 ?_|refine aq ?_|refine ap ?_|refine bY ?_|refine aG ?_|refine ba ?_|refine bZ ?_|refine bc ?_|refine bd rfl ?_|refine bi ?_|refine be ?_|refine b7 ?_|refine bf ?_|refine aF ?_|refine n_k ?_|refine bg ?_|(refine ae ?_;clear ae X af Y)|(refine af ?_;clear ae X af Y))|(with_reducible refine bo ?_;first|refine bm rfl ?_|refine bn rfl ?_)|(with_reducible refine aQ ?_;first|refine au rfl rfl rfl rfl ?_|refine aI rfl rfl rfl ?_|refine bt rfl rfl rfl rfl ?_)|(with_reducible refine ce ?_;first|refine bE rfl rfl rfl rfl ?_|refine b9 rfl rfl rfl ?_|refine cn rfl rfl rfl rfl ?_|refine co hN (by apply Exists.intro;apply And.intro;(repeat' (first|apply FtI.nil|apply FI.nil|apply FI.cons|apply FtI.cons));kernel_rfl) ?_)|((first|(with_reducible first|refine bp rfl rfl fun K hK=>?_|refine ck rfl rfl fun K ab=>?_|refine br rfl rfl fun K aa=>?_|refine cm rfl rfl fun K ac=>?_|refine aH fun X Y ae af=>?_|refine aJ ?_));simp (disch:=first|decide|omega|(simp only [List.length_cons,List.length_nil];omega)) only [go_sem,beq_self_eq_true,↓aj,↓ak hN,am hN,reduceIte,reduceCtorEq,Nat.reduceAdd,Nat.reduceLT,Nat.reduceLeDiff,Nat.reduceEqDiff,Nat.reduceSub])|(with_reducible refine And.intro (fun h=>?_) (fun h=>?_) <;> try (exfalso;omega))|(with_reducible refine bj aK hN rfl ?_ ?_;kernel_rfl)|(with_reducible refine bF aK hN rfl ?_ ?_ ?_ ?_;(kernel_rfl);(kernel_rfl);(kernel_rfl))|(refine dQ (hw) ?_ rfl rfl ?_)|(refine aO hwo ?_ rfl (fun _=>rfl) ?_)|(refine aO (gL ?_ ?_) ?_ rfl (fun _=>rfl) ?_)|(with_reducible first|exact ax|refine ao ?_ ?_|exact cg _|refine bv ?_|exact a8 _|exact bJ _ _|refine bI ?_|exact aY _)|exact bw hN rfl rfl|(refine bG hN rfl ?_;first|exact aM _|exact aN _)|exact aZ rfl rfl rfl|(simp only [bW,List.map_nil])|(with_reducible refine b8 ?_)|(with_reducible refine And.intro ?_ ?_)|(refine ah ?_;omega)|(exact bu hN (by decide))))
   all_goals (try (refine ah ?_;omega))
   (refine d8 hN [4,5] (by decide) (.inr rfl) (by first|exact cL rfl rfl|exact cF hN rfl rfl rfl rfl|exact cy hN rfl rfl rfl rfl rfl|(simp (disch:=first|decide|omega|(simp only [List.length_cons,List.length_nil];omega)) only [ci,cu,cw,cx,go_sem,beq_self_eq_true,↓aj,↓ak hN,am hN,reduceIte,reduceCtorEq,Nat.reduceAdd,Nat.reduceLT,Nat.reduceLeDiff,Nat.reduceEqDiff,Nat.reduceSub];rfl)|rfl) ?_ fun νs hνs=>?_;(repeat' (first|exact Gone.nil|(refine Gone.cons rfl rfl ?_ ?_)|(with_reducible refine dA ?_)|(with_reducible refine dz ?_)|(with_reducible refine SVs.cons ?_ ?_)|(with_reducible exact SVs.nil)|(simp only [List.drop,List.take])|(simp (disch:=first|decide|omega) only [↓aj,reduceIte,reduceCtorEq,Nat.reduceEqDiff])|(with_reducible exact fw _)|(with_reducible exact dw _)|(exact dx rfl rfl rfl)|(exact dy 0 (by simp) rfl rfl)|(exact dy 1 (by simp) rfl rfl)|(refine d7 hN rfl (dB hN (by decide)) ?_)|(with_reducible refine d6 ?_)|(with_reducible rfl)|(with_reducible refine bA ?_)|(with_reducible refine bC ?_)|(with_reducible refine bD ?_)|(with_reducible refine bB ?_)|(with_reducible refine bz ?_)|(refine ah ?_;omega))))
   · exact hw0.symm
   · exact hw1.symm
end Go.Proofs.Ytfaefmabjjndeaa
